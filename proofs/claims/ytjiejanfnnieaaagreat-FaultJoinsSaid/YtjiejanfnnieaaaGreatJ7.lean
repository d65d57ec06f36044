/- Lemmas of this claim, each with its conditions. -/
import Derived.Test.YtjiejanfnnieaaaGreatJ6
import Derived.Test.YtjiejanfnnieaaaGreatJ5
import Derived.Test.YtjiejanfnnieaaaGreatJ4
import Derived.Test.YtjiejanfnnieaaaGreatJ3
import Derived.Test.YtjiejanfnnieaaaGreatJ2
set_option linter.all false
set_option maxHeartbeats 8000000
open List (nil_append mem_iff_getElem? flatMap_cons cons_append all_eq_true filterMap_nil Perm drop_zero map_nil flatMap_nil mem_filter mem_map)
open Bool (not_not)
open Go.Proofs.Tryz (func129 func215 func216 func224 func274)
open Go.Proofs.Tryz renaming prog -> aa, func136 -> cp
open Nat renaming reduceEqDiff -> ac, reduceLeDiff -> ad, reduceAdd -> aj, reduceLT -> am, reduceMul -> ap, le_refl -> ay, add_zero -> ba, lt_succ_self -> be, reduceSub -> bh, mul_one -> bk, le_trans -> b0, not_lt_zero -> cc, zero_le -> ce, sub_self -> ck, min_eq_left -> cn, pos_of_ne_zero -> co, add_assoc -> fv, zero_add -> fx
open List renaming length_map -> af, mem_of_getElem? -> al, drop_of_length_le -> a5, length_take -> a7, take_of_length_le -> a8, append_nil -> a9, take_length -> bb, getElem?_map -> bc, take_append_of_le_length -> bd, flatMap_append -> bi, filter_cons -> bt, contains_iff_mem -> bw, length_filter_le -> bV, mem_of_find?_eq_some -> b7, length_filterMap_le -> b8, set_eq_take_append_cons_drop -> b9, drop_append -> cb, append_assoc -> ch, sizeOf_lt_of_mem -> ci, drop_length -> cl, map_append -> ct, mem_or_eq_of_mem_set -> cv, getElem?_drop -> c5, getElem?_take -> c6, replicate -> dd, filterMap_append -> dl, all_append -> dv, length_set -> dC, mem_cons_of_mem -> d6, mem_of_mem_drop -> d7, mem_of_mem_take -> d8, filterMap_cons -> d9, filter_eq_self -> el, nodup_nil -> em, filter_append -> ey, mem_cons_self -> e4, length_drop -> e5, take_append -> e6, filter_nil -> fb, foldl_cons -> fd, drop_drop -> fm
open And renaming intro -> a4
open Bool renaming false_ne_true -> bv, and_eq_true -> ca, not_eq_true' -> dc, eq_iff_iff -> dt, or_self -> fa
open Int renaming toNat_natCast -> es
namespace Go.Proofs
open Go.Ev
set_option maxRecDepth 100000
def iV(ls:List (List Nat))(hd:jy):List (List Nat):=(hd.filter λe=>ls.contains e.2).map (·.1)
def Ie(ls:List (List Nat))(hd:jy)(e:List Nat×List Nat):iV ls (hd++[e])=iV ls hd++(if ls.contains e.2=true then [e.1] else []):=by
 unfold iV;rw[ey,ct];cases h:ls.contains e.2
 ·rw[bt,v6 (by rw[h];decide)];rfl
 ·rw[bt,ut h];rfl
def x9{k:List Nat}:∀{l:jy},(lQ k l).length<=l.length
 | []=>ay _
 | e::l=>by
  rw[lQ];split
  ·exact Nat.le_succ _
  ·exact Nat.succ_le_succ x9
def vF:∀(ks:List (List Nat)) {r:jy},(r.map (·.1)).Nodup->ks.foldl (λr k=>lQ k r) r=r.filter λe=>!ks.contains e.1
 | [],r,_=>by
  rw[List.foldl_nil];symm;rw[el];intro a _;rfl
 | k::ks,r,h=>by
  rw[fd,kQ h];have hn:((r.filter λe=>!decide (e.1=k)).map (·.1)).Nodup:=h.sublist ((List.filter_sublist).map _);rw[vF ks hn,List.filter_filter]
  congr 1
  funext e;rw[List.contains_cons];by_cases hh:e.1=k
  ·simp[hh]
  ·simp[hh]
def KZ{r:jy}{ls mo:List (List Nat)}(hn:(r.map (·.1)).Nodup)(hm:mo.Perm (iV ls r)):mo.foldl (λr k=>lQ k r) r=r.filter λe=>!ls.contains e.2:=by
 rw[vF mo hn];apply List.filter_congr;intro e he
 congr 1
 rw[dt,bw,hm.mem_iff];unfold iV;constructor
 ·intro h;obtain⟨e',he',h2⟩:=mem_map.1 h;obtain⟨h3,h4⟩:=mem_filter.1 he'
  have:e'=e:=by
   obtain⟨i,hi⟩:=mem_iff_getElem?.1 h3;obtain⟨j,hj⟩:=mem_iff_getElem?.1 he
   have g1:(r.map (·.1))[i]?=some e'.1:=by rw[bc,hi];rfl
   have g2:(r.map (·.1))[j]?=some e'.1:=by rw[bc,hj,h2];rfl
   have:=(List.getElem?_inj (bq g1) hn).1 (g1.trans g2.symm);subst this;rw[hi] at hj;cases hj;rfl
  rw[this] at h4;exact h4
 ·intro h;exact List.mem_map_of_mem (mem_filter.2 ⟨he,h⟩)
def Cr:∀(l:List aq) (i:Nat) (m:List (List Nat×Int)),(nQ i m l).length<=m.length+l.length
 | [],_,_=>ay _
 | p::r,i,m=>by
  rw[nQ];refine b0 (Cr r _ _) ?_
  cases h:dF p.name m with
  | true=>simp only[if_true,i7];omega
  | false=>simp only[Bool.false_eq_true,if_false,qH h,li,i7,i5];omega
def yW{α:Type}(p:α->Bool):∀l:List α,(l.filter p).length+(l.filter λx=>!p x).length=l.length
 | []=>rfl
 | a::l=>by
  have:=yW p l;cases h:p a
  ·rw[bt,v6 (by rw[h];decide),bt,ut (by rw[h];rfl),i7,i7];omega
  ·rw[bt,ut h,bt,v6 (by rw[h];decide),i7,i7];omega
def Ic{ls:List (List Nat)}{a b:jy}(h:a.Perm b):(iV ls a).Perm (iV ls b):=(h.filter _).map _
def cC{p o e n:Nat}(h:o≠p):names p (cr o e n)=false:=by
 unfold cr;split
 ·exact l8 _
 ·rw[names];exact wd h
def dJ(q:Nat->Nat)(o e n:Nat):fo q (cr o e n)=cr (q o) e n:=by
 unfold cr;split
 ·rw[Ot]
 ·rw[Dm]
def yN(r:jy)(bs:List Nat)(c:Nat):SO:=.map (r.map λe=>.str e.1) (r.map λe=>ah e.2) (some (bs,c))
def vd(o:Nat)(r:jy)(bs:List Nat)(c:Nat):bF o (yN r bs c)=yN r bs c:=by
 unfold yN;rw[bF]
 congr 1
 exact bQ (pC (uv:=ah) (λ_=>rfl) r)
def Kp(q:Nat->Nat)(r:jy)(bs:List Nat)(c:Nat):pM q (yN r bs c)=yN r bs c:=by
 unfold yN;rw[Kh]
 congr 1
 exact bp (pC (uv:=ah) (λ_=>rfl) r)
def Ko(q:Nat->Nat)(r:jy):pM q (bE AV.str ah r)=bE AV.str ah r:=by
 unfold bE;rw[Kh]
 congr 1
 exact bp (pC (uv:=ah) (λ_=>rfl) r)
def qN(ps:List aq)(part:List Nat)(hlen:ps.length<=100000):SC aa 17 [.ag [an 14 ps ae],ah part] [] [] (λr S'=>r=cr 0 1 (fP ps part).length/\S'=[eY (fP ps part)]):=by
 refine LK 87 Tryz.func17 ?_;refine(jr)<|(zK (rJ ps i4) (hfl:=.inr zr)) ?_
 have hgood:Hq ps (nQ 0 [] ps):=ED (ps:=ps) rfl ⟨λe he=>by simp at he,em⟩
 have hMl:(nQ 0 [] ps).length<=ps.length:=by have:=Cr ps 0 [];simpa using this
 obtain⟨M,hM⟩:∃M,M=nQ 0 [] ps:=⟨_,rfl⟩
 have hN:fP ps part=if dF part M=true then ee (dP (ps.length+2) (lQ part (jX ps M)) [part]) else []:=by rw[hM];rfl
 rw[<-hM] at hgood hMl
 refine(cP (bu @Cf.eq_1 (Eq.symm hM)))<|(zs) ?_;refine aG.r0 ii (by simp only[cL,bI,an,aC,m7,m6,↓reduceIte,ac,aj,ap,ad,am,ak,au,bl,wc (l:=M)];first | done | rfl) ?_;refine(zV) ?_
 cases h1:dF part M
 ·refine(cI) ?_;rw[h1,v6 g9] at hN
  refine zA [(4,aR)] [.gone] zH<|(zE) ?_;exact zP [.tmp 4] (hq:=by (try simp only[eC,bJ]);first | done | (rw[hN];exact⟨rfl,rfl⟩))
 rw[h1,ut rfl] at hN
 refine(lj)<|(zC) ?_;refine aL.TW (ks:=M.map λe=>.str e.1) (vs:=M.map λe=>ab e.2) ii rfl rfl ii rfl (by simp only[aC]) ?_
 intro bs c hbs;refine(cP @jL) ?_
 (repeat refine aG.seq ?_)
 refine aG.block (aG.loop (λm st=>∃pos:List Nat,pos.Nodup/\(∀j∈pos,j<M.length)/\M.length-pos.length=m/\st=⟨[(1,ah part),(5,.ptr 1 0),(8,.map 2),(33,.ptr 3 0)],87,[.gone,.cells [an 14 ps ae,lU AV.str ab M],bE AV.str ah (jX ps (bn M pos)),.oE (M.map λe=>.str e.1) (M.map λe=>ab e.2) bs c pos],[]⟩) M.length (cf (lk @bE.eq_1 @bn.eq_1 @jX.eq_1 @filterMap_nil.{0,0} @map_nil.{0,0})) ⟨[],em,λj hj=>by simp at hj,rfl,rfl⟩ (by rintro m st ⟨pos,_,_,_,rfl⟩;rfl) ?_);rintro m st ⟨pos,hpn,hpl,rfl,rfl⟩;refine(zC) ?_;refine aL.TT ii rfl rfl ii rfl rfl (λj hj=>by rw[af];exact hpl j hj) ?_ ?_;rotate_left
 ·intro j hj hjn;rw[af] at hj;obtain⟨e,he⟩:∃e,M[j]?=some e:=⟨M[j],jp hj⟩;obtain⟨q1,q2,q3⟩:=qF hpn hpl hj hjn;obtain⟨i,x,hi,hx,hxn⟩:=hgood.1 e (al he);have hil:=bq hx;have hsn:=kU M pos he;have hfresh:=HX hgood.2 he hjn
  refine(zR)<|(gA)<|(zC) ?_;refine aL.TM (k:=.str e.1) (v:=ab e.2) ii rfl rfl ii rfl rfl (by rw[bc,he];rfl) (by rw[bc,he];rfl) ?_;refine(zR) ?_
  rw[hi];refine(aD (cJ hil (aQ (e:=14) (enc:=ae) gc hx) @ae.eq_1)) ?_
  have hin:CW ps e.2=x.br:=by unfold CW;rw[hi,es,hx]
  by_cases hx0:x.br=[]
  ·refine(aD (wl hx0))<|(zN) ?_
   have hr:jX ps (bn M (pos++[j]))=jX ps (bn M pos):=by
    rw[hsn];unfold jX;rw[dl,d9,ut (by rw[hin,hx0]),filterMap_nil,a9]
   exact⟨M.length-(pos++[j]).length,_,by rw[li];simp only[i7,i5];omega,(cf hr),pos++[j],q1,q2,rfl,rfl⟩
  ·refine(aD (wd hx0))<|(zY)<|(zs) ?_;refine aG.r0 ii (by simp only[cL,bI,an,aC,m7,m6,↓reduceIte,ac,aj,ap,ad,am,ak,au,bl,Jb (l:=jX ps (bn M pos))];first | done | rfl) ?_
   have hr:jX ps (bn M (pos++[j]))=cy e.1 x.br (jX ps (bn M pos)):=by
    rw[qH (by
     cases hh:dF e.1 (jX ps (bn M pos)) with
     | false=>rfl
     | true=>exact un (yX (kV.1 hh)) hfresh),hsn]
    unfold jX;rw[dl,d9,v6 (by rw[hin];exact hx0),filterMap_nil,hin]
   exact⟨M.length-(pos++[j]).length,_,by rw[li];simp only[i7,i5];omega,(cf hr),pos++[j],q1,q2,rfl,rfl⟩
 intro hall;have hperm:(bn M pos).Perm M:=mJ hpn hpl λj hj=>hall j (by rw[af];exact hj)
 refine(zR)<|(gg)<|(zs) ?_;refine aG.r0 ii (by simp only[cL,bI,an,aC,m7,m6,↓reduceIte,ac,aj,ap,ad,am,ak,au,bl,Aa (l:=jX ps (bn M pos))];first | done | rfl) ?_
 obtain⟨r0,hr0⟩:∃r0,r0=lQ part (jX ps (bn M pos)):=⟨_,rfl⟩;have hnk:((bn M pos).map (·.1)).Nodup:=(hperm.map (·.1)).nodup_iff.2 hgood.2
 have hrp:r0.Perm (lQ part (jX ps M)):=by
  rw[hr0,kQ (jn hnk),kQ (jn hgood.2)];exact(hperm.filterMap _).filter _
 have hr0n:(r0.map (·.1)).Nodup:=by
  rw[hr0,kQ (jn hnk)];exact(jn hnk).sublist (List.filter_sublist.map _)
 have hr0l:r0.length<=ps.length:=by
  rw[hrp.length_eq];exact b0 x9 (b0 (b8 _ _) hMl)
 have hN2:fP ps part=ee (dP (ps.length+2) r0 [part]):=by
  rw[hN];exact sL (nX _ hrp.symm (λ_=>rfl) Iff.rfl)
 rw[<-hr0];clear hN hperm hall
 refine(zV)<|(aD @jL) ?_;refine zZ [(1,ah part),(8,.map 2),(12,aR),(13,an 1 [part] (aH ah))] 4 rfl (gw (gm @an.eq_1 @aH.eq_1 @flatMap_cons.{0,0} @flatMap_nil.{0,0}))<|zA [(1,ah part),(8,.map 0),(12,aR),(13,an 1 [part] (aH ah))] [bE AV.str ah r0,.gone] (Fg.rn [2,0] g9 rfl (Mg @Ko) (Mh @Ko)) ?_
 clear hr0 hrp;obtain⟨T,hT0⟩:∃T,T=dP (ps.length+2) r0 [part]:=⟨_,rfl⟩;rw[<-hT0] at hN2
 (repeat refine aG.seq ?_)
 refine aG.block (aG.loop (λm st=>∃(r:jy) (ls out:List (List Nat)) (fu:Nat),((r.map (·.1)).Nodup/\r.length+(if ls=[] then 1 else 2)<=fu)/\(out++dP fu r ls).Perm T/\(out.length+r.length<=ps.length/\ls.length<=ps.length+1)/\(r.length+if ls=[] then 0 else 1)=m/\st=⟨[(1,ah part),(8,.map 0),(12,cr 1 1 out.length),(13,an 1 ls (aH ah))],87,[bE AV.str ah r,eY out],[]⟩) (r0.length+1) (cf (cJ @lD @gU @i5.{0})) ⟨r0,[part],[],ps.length+2,⟨hr0n,by rw[v6 ge];omega⟩,by rw[hT0];exact Perm.refl _,⟨by simpa using hr0l,by simp⟩,rfl,rfl⟩ (by rintro m st ⟨r,ls,out,fu,_,_,_,_,rfl⟩;rfl) ?_);rintro m st ⟨r,ls,out,fu,⟨hrn,hfu⟩,hT,⟨hsz,hlsl⟩,rfl,rfl⟩;clear hr0n hr0l hT0;by_cases hls:ls=[]
 ·subst hls
  refine(aD (show decide (0<(([]:List (List Nat)).length:Int))=false by simp))<|(gg) ?_
  have hgo:dP fu r []=[]:=by
   cases fu with
   | zero=>rfl
   | succ k=>rw[dP,ut rfl]
  rw[hgo,a9] at hT
  have hres:fP ps part=ee out:=by rw[hN2];exact(sL hT).symm
  by_cases ho:out=[]
  ·subst ho
   refine(e9 (bu @lD @i5.{0}))<|(zK uB)<|(zR)<|(zV)<|zA [(4,aR)] [.gone] zH<|(zE) ?_;exact zP [.tmp 4] (hq:=by (try simp only[eC,bJ]);first | done | (rw[hres,show ee []=[] from rfl];exact⟨rfl,rfl⟩))
  ·have hol:¬out.length=0:=λh=>ho (t8 h);rw[eo hol,fU ho]
   refine(zC) ?_;refine aL.sk [1] ii rfl rfl ii rfl zc (An out i4 ho) (by simp only[gn,bI,an,↓reduceIte,ac,aj,bh,ap,ad,am,jL,bp (aE (enc:=aH ah) gc _),bO (aE (enc:=aH ah) gc _)];first | done | rfl) rfl g9 (by simp only[CR,gn,bI,an,jL,bp (aE (enc:=aH ah) gc _),bO (aE (enc:=aH ah) gc _)]<;>(repeat' apply a4)<;>first | trivial | rfl | (intro hh;cases hh)) (by simp only[B5,gn,bI,an,aj,am,decide_true,jL,bp (aE (enc:=aH ah) gc _),bO (aE (enc:=aH ah) gc _)];first | done | rfl) (by simp only[B5,gn,bI,an,aj,am,decide_true,jL,bp (aE (enc:=aH ah) gc _),bO (aE (enc:=aH ah) gc _)];first | done | rfl) (by simp only[gn,bI,an,↓reduceIte,ac,aj,bh,ap,ad,am,jL,bp (aE (enc:=aH ah) gc _),bO (aE (enc:=aH ah) gc _)];first | done | rfl) (by simp only[gn,bI,an,↓reduceIte,ac,aj,bh,ap,ad,am,jL,bp (aE (enc:=aH ah) gc _),bO (aE (enc:=aH ah) gc _),bX,cA,bF,aM,cL];first | done | rfl) (by simp only[gn,bI,an,↓reduceIte,ac,aj,bh,ap,ad,am,jL,bp (aE (enc:=aH ah) gc _),bO (aE (enc:=aH ah) gc _),bX,cA,bF,aM,cL];first | done | rfl) ?_;refine(zR)<|(zV) ?_
   have hsl:(ee out).length=out.length:=(r9 out).length_eq;have hsne:¬ee out=[]:=λe=>hol (by rw[<-hsl,e];rfl);refine zA [(4,.buf 0 out.length 1 none)] [.cells ((ee out).flatMap (aH ah))] (Fg.rn [1] g9 rfl (by (simp only[sA,gn,bI,an,bp (aE (enc:=aH ah) gc (ee out))])<;>(repeat' apply a4)<;>first | trivial | exact .inl rfl | exact .inr rfl | exact .inr trivial | exact .inl trivial) (by (simp only[cL,gn,bI,an,bp (aE (enc:=aH ah) gc (ee out))])<;>(repeat' apply a4)<;>first | rfl | trivial)) ?_;refine(zE) ?_;exact zP [.tmp 4] (hq:=by (try simp only[eC,bJ]);first | done | (rw[hres,hsl,eo hol,fU hsne];exact⟨rfl,rfl⟩))
 rw[v6 hls] at hfu ⊢;have hl0:0<ls.length:=co λh=>hls (t8 h)
 refine(aD (show decide (0<(ls.length:Int))=true by simp only[wp];omega))<|(gA)<|(jr) ?_;refine aL.Vn (oo:=0) (ks:=r.map λe=>.str e.1) (vs:=r.map λe=>ah e.2) (b:=none) ii rfl rfl ii rfl rfl (by simp only[aC]) ?_
 intro bs c hbs;rw[af] at hbs;change aL _ _ _ _ ⟨_,_,dS [yN r bs c,eY out] _,_⟩ _;refine aL.r0 ii (by simp only[cL,bI,an,aC,m7,m6,↓reduceIte,ac,aj,ap,ad,am,ak,au,bl,fw,vd,cC (show 1≠2 by decide)];first | done | rfl) ?_
 (repeat refine aG.seq ?_)
 refine aG.block (aG.loop (λm st=>∃pos:List Nat,pos.Nodup/\(∀j∈pos,j<r.length)/\r.length-pos.length=m/\st=⟨[(1,ah part),(8,.map 0),(12,cr 1 1 out.length),(13,an 1 ls (aH ah)),(14,cr 3 1 (iV ls (bn r pos)).length),(58,.ptr 2 0)],87,[yN r bs c,eY out,.iter (.map 0) bs c pos,eY (iV ls (bn r pos))],[]⟩) r.length (Fg.less (by (simp only[cL,bI,fF,↓reduceIte,ac,an,bn,iV,filterMap_nil,fb,map_nil,lD,gU,i5,cC (show 1≠2 by decide)])<;>(repeat' apply a4)<;>first | rfl | trivial) (by (simp only[cL,bI,or_true,true_or,an,bn,iV,filterMap_nil,fb,map_nil,lD,gU,i5,cC (show 1≠2 by decide)])<;>(repeat' apply a4)<;>first | exact .inr rfl | exact .inl rfl | trivial)) ⟨[],em,λj hj=>by simp at hj,rfl,rfl⟩ (by rintro m st ⟨pos,_,_,_,rfl⟩;rfl) ?_);rintro m st ⟨pos,hpn,hpl,rfl,rfl⟩;refine(zC) ?_;refine aL.Vg (ks:=r.map λe=>.str e.1) (vs:=r.map λe=>ah e.2) ii rfl rfl ii rfl rfl rfl (λj hj=>by rw[af];exact hpl j hj) ?_ ?_;rotate_left
 ·intro j hj hjn;rw[af] at hj;obtain⟨e,he⟩:∃e,r[j]?=some e:=⟨r[j],jp hj⟩;obtain⟨q1,q2,q3⟩:=qF hpn hpl hj hjn;have hsn:=kU r pos he;have hms:=Ie ls (bn r pos) e;rw[<-hsn] at hms
  have hml:(iV ls (bn r pos)).length<=100000:=by
   unfold iV;rw[af];have h1:=bV (λe:List Nat×List Nat=>ls.contains e.2) (bn r pos);have h2:(bn r pos).length<=pos.length:=b8 _ _;omega
  generalize iV ls (bn r pos)=mo at hms hml
  refine(zR)<|(gA)<|(zC) ?_;refine aL.Vb (ks:=r.map λe=>.str e.1) (vs:=r.map λe=>ah e.2) (k:=.str e.1) (v:=ah e.2) ii rfl rfl ii rfl rfl rfl (by rw[bc,he];rfl) (by rw[bc,he];rfl) ?_;refine(zR)<|(zC)<|(zK (iA ls e.2 i4)) ?_
  cases hc:ls.contains e.2
  ·rw[hc,v6 g9,a9] at hms
   refine(zR)<|(zN) ?_;exact⟨r.length-(pos++[j]).length,_,by rw[li];simp only[i7,i5];omega,(cf hms),pos++[j],q1,q2,rfl,rfl⟩
  ·rw[hc,ut rfl] at hms
   refine(zR)<|(zY) ?_
   have happ:=mg (enc:=aH ah) (e:=1) gc (λ_=>rfl) 3 mo e.1;have hcl:=aU (enc:=aH ah) (e:=1) gc mo;rw[show aH ah e.1=[ah e.1] from rfl,bk] at happ;by_cases hmo:mo=[]
   ·subst hmo;refine(zs) ?_;refine aG.r0 ii (by simp only[cL,bI,an,aC,m7,m6,↓reduceIte,ac,aj,ap,ad,am,ak,au,bl,lD,i5,gU,fw,vd,cC (show 1≠4 by decide),cC (show 1≠5 by decide)];first | done | rfl) ?_;exact⟨r.length-(pos++[j]).length,_,by rw[li];simp only[i7,i5];omega,((Fg.rn (f':=[(1,ah part),(8,.map 0),(12,cr 1 1 out.length),(13,an 1 ls (aH ah)),(14,.buf 3 1 1 none),(58,.ptr 2 0)]) (n:=87) (S':=[yN r bs c,eY out,.iter (.map 0) bs c (pos++[j]),.cells [ah e.1]]) [0,1,2,5] g9 rfl (Mg (cJ @Kp @eM @dJ)) (Mh (cJ @Kp @eM @dJ)))).trans (cf (Hm hms @nil_append.{0} @eY.eq_1 @aH.eq_1 @flatMap_cons.{0,0} @flatMap_nil.{0,0} @cr.eq_1)),pos++[j],q1,q2,rfl,rfl⟩
   ·have hmol:¬mo.length=0:=λh=>hmo (t8 h);rw[eo hmol,fU hmo]
    have hq:mo++[e.1]≠[]:=by simp
    have hql:(mo++[e.1]).length=mo.length+1:=by rw[li];rfl
    refine(zs) ?_;refine aG.r0 ii (by simp only[cL,bI,an,aC,m7,m6,↓reduceIte,ac,aj,ap,ad,am,ak,au,bl,fw,vd,cC (show 1≠4 by decide),cC (show 1≠3 by decide),bx (enc:=aH ah) gc _ mo,hcl,bk,ay,show mo.length<=1000000 by omega,happ];first | done | rfl) ?_;exact⟨r.length-(pos++[j]).length,_,by rw[li];simp only[i7,i5];omega,(cf (gm hms hql @R6 (fU hq))),pos++[j],q1,q2,rfl,rfl⟩
 intro hall;have hperm:(bn r pos).Perm r:=mJ hpn hpl λj hj=>hall j (by rw[af];exact hj);have hmp:(iV ls (bn r pos)).Perm (iV ls r):=Ic hperm;obtain⟨mo,hmo⟩:∃mo,mo=iV ls (bn r pos):=⟨_,rfl⟩;rw[<-hmo] at hmp ⊢;clear hall
 refine(zR)<|(gg) ?_;refine aG.fg (st':=⟨[(1,ah part),(8,.map 0),(12,cr 1 1 out.length),(13,an 1 ls (aH ah)),(14,an 1 mo (aH ah))],87,[bE AV.str ah r,eY out],[]⟩) ?_ ?_
 ·refine Fg.trans (b:=⟨_,87,[yN r bs c,eY out],[]⟩) ?_ (Fg.Sy (S:=[yN r bs c,eY out]) (ks:=r.map λe=>.str e.1) (vs:=r.map λe=>ah e.2) (b:=some (bs,c)) 0 rfl);by_cases h0:mo=[]
  ·rw[h0];exact Fg.trans (Fg.wk (f':=[(1,ah part),(8,.map 0),(12,cr 1 1 out.length),(13,an 1 ls (aH ah)),(14,an 1 ([]:List (List Nat)) (aH ah))]) ⟨.inl rfl,.inl rfl,.inl rfl,.inl rfl,.inr (.nil _),trivial⟩) zH
  ·have hmol:¬mo.length=0:=λh=>h0 (t8 h);rw[eo hmol,fU h0];exact Fg.trans (Fg.freeze (f':=[(1,ah part),(8,.map 0),(12,cr 1 1 out.length),(13,an 1 ls (aH ah)),(14,an 1 mo (aH ah))]) 3 rfl gt ⟨.inl rfl,.inl rfl,.inl rfl,.inl rfl,.inr (.buf rfl (by rw[ek (enc:=aH ah) (e:=1) gc];exact cu.refl (aE (λ_=>rfl) _)) (by rw[aU (enc:=aH ah) (e:=1) gc];exact ay _)),trivial⟩) zH
 have hmol:mo.length<=r.length:=by
  rw[hmp.length_eq];unfold iV;rw[af];exact bV _ _
 have hdel:=KZ hrn hmp
 have hgo:((out++mo)++dP (fu-1) (r.filter λe=>!ls.contains e.2) mo).Perm T:=by
  refine Perm.trans ?_ hT;obtain⟨k,rfl⟩:∃k,fu=k+1:=⟨fu-1,by omega⟩;rw[dP,v6 hls,ch];refine Perm.append_left out (hmp.append ?_);refine nX k (Perm.refl _) (λx=>?_) ⟨λe=>?_,λe=>?_⟩
  ·rw[dt,bw,bw];exact hmp.mem_iff
  ·rw[e] at hmp;exact hmp.nil_eq.symm
  ·have:iV ls r=[]:=e;rw[this] at hmp;exact hmp.eq_nil
 have hpl:(iV ls r).length+(r.filter λe=>!ls.contains e.2).length=r.length:=by
  unfold iV;rw[af];exact yW _ r
 rw[<-hmp.length_eq] at hpl;have hrn2:((r.filter λe=>!ls.contains e.2).map (·.1)).Nodup:=hrn.sublist (List.filter_sublist.map _)
 (try change aG _ _ _ _ _)
 refine(zV)<|(zs) ?_;refine zL mo (λk=>True) (λk=>[(1,ah part),(8,.map 0),(12,cr 1 1 out.length),(14,an 1 mo (aH ah)),(71,an 1 mo (aH ah)),(72,ab mo.length),(73,ab k)]) (λk=>[bE AV.str ah ((mo.take k).foldl (λr k=>lQ k r) r),eY out]) (cf (bu @List.take_zero.{0} @List.foldl_nil.{0,0})) zp ?_;intro k hk hall;refine zT mo k ?_ ?_;rintro rfl;rotate_left;intro x hx hlt;rotate_left
 rotate_left
 ·refine(gA)<|(aD (cJ hlt (aQ (e:=1) (enc:=aH ah) gc hx) @aH.eq_1))<|(zs) ?_;refine aG.r0 ii (by simp only[cL,bI,an,aC,m7,m6,↓reduceIte,ac,aj,ap,ad,am,ak,au,bl,Aa (l:=(mo.take k).foldl (λr k=>lQ k r) r)];first | done | rfl) ?_
  have hst:(mo.take (k+1)).foldl (λr k=>lQ k r) r=lQ x ((mo.take k).foldl (λr k=>lQ k r) r):=by rw[cM hx,List.foldl_append];rfl
  refine(aD (zi hlt (show mo.length<=1000000 by omega))) ?_;refine zX hlt (cf hst) trivial
 refine(gg) ?_;rw[bb,hdel];generalize hr':(r.filter λe=>!ls.contains e.2)=r' at hgo hpl hrn2
 have hme:r'.length+(if mo=[] then 0 else 1)<r.length+1/\r'.length+(if mo=[] then 1 else 2)<=fu-1:=by
  by_cases h0:mo=[]
  ·rw[ut h0,ut h0];omega
  ·have:0<mo.length:=co λh=>h0 (t8 h);rw[v6 h0,v6 h0];omega
 have hsz2:(out++mo).length+r'.length<=ps.length/\mo.length<=ps.length+1:=by rw[li];omega
 have hmk:=bx (enc:=aH ah) gc;have hmo1:(mo.flatMap (aH ah)).all eB=true:=rf (λ_=>rfl) mo;by_cases h0:mo=[]
 ·subst h0;rw[a9] at hgo hsz2;by_cases h1:out=[]
  ·subst h1
   refine(aD (bu @lD @i5.{0}))<|(zV) ?_;exact⟨_,_,hme.1,(cf (cJ @lD @gU @i5.{0})),r',[],[],fu-1,⟨hrn2,hme.2⟩,hgo,hsz2,rfl,rfl⟩
  ·have h1l:¬out.length=0:=λh=>h1 (t8 h);rw[eo h1l,fU h1]
   refine(aD (bu @i5.{0} (show out.length<=1000000 by omega)))<|(zV) ?_;exact⟨_,_,hme.1,(Fg.less (by (simp only[cL,bI,fF,↓reduceIte,ac,an,eo h1l,fU h1,i5])<;>(repeat' apply a4)<;>first | rfl | trivial) (by (simp only[cL,bI,or_true,true_or,an,eo h1l,fU h1,i5])<;>(repeat' apply a4)<;>first | exact .inr rfl | exact .inl rfl | trivial)),r',[],out,fu-1,⟨hrn2,hme.2⟩,hgo,hsz2,rfl,rfl⟩
 have hmol2:¬mo.length=0:=λh=>h0 (t8 h);by_cases h1:out=[]
 ·subst h1;rw[nil_append] at hgo hsz2
  refine(aD (TL @lD @gU @i5.{0} hmol2 (show mo.length<=1000000 by omega) hmo1 hmk @jL))<|(zV) ?_;exact⟨_,_,hme.1,((Fg.rn (f':=[(1,ah part),(8,.map 0),(12,.buf 1 mo.length 1 none),(13,an 1 mo (aH ah))]) (n:=87) (S':=[bE AV.str ah r',.cells (mo.flatMap (aH ah))]) [0,2] g9 rfl (by (simp only[sA,gn,bI,an,Ko,bp (aE (enc:=aH ah) gc mo)])<;>(repeat' apply a4)<;>first | trivial | exact .inl rfl | exact .inr rfl | exact .inr trivial | exact .inl trivial) (by (simp only[cL,gn,bI,an,Ko,bp (aE (enc:=aH ah) gc mo)])<;>(repeat' apply a4)<;>first | rfl | trivial))).trans (Fg.less (by (simp only[cL,bI,fF,↓reduceIte,ac,an,eo hmol2,fU h0])<;>(repeat' apply a4)<;>first | rfl | trivial) (by (simp only[cL,bI,or_true,true_or,an,eo hmol2,fU h0])<;>(repeat' apply a4)<;>first | exact .inr rfl | exact .inl rfl | trivial)),r',mo,mo,fu-1,⟨hrn2,hme.2⟩,hgo,hsz2,rfl,rfl⟩
 ·have h1l:¬out.length=0:=λh=>h1 (t8 h);have hol:=aU (enc:=aH ah) (e:=1) gc out;rw[bk] at hol;have hot:(out.flatMap (aH ah)).take out.length=out.flatMap (aH ah):=a8 (by rw[hol];exact ay _)
  have hq:¬(out++mo)=[]:=by simp[h1]
  have hql:(out++mo).length=out.length+mo.length:=li;rw[eo h1l,fU h1]
  have hap:(out.flatMap (aH ah)++mo.flatMap (aH ah)).map (aM 1)=(out++mo).flatMap (aH ah):=by rw[ct,hmk,hmk,bi]
  refine(aD (bu (Mj hmol2 (show mo.length<=1000000 by omega) (show out.length<=1000000 by omega) hmo1 hol @bk @ay hot hmk) (bu @jL hap)))<|(zV) ?_;exact⟨_,_,hme.1,(Fg.less (by (simp only[cL,bI,fF,↓reduceIte,ac,an,eo (show ¬(out.length+mo.length)=0 by omega),fU hq,hql])<;>(repeat' apply a4)<;>first | rfl | trivial) (by (simp only[cL,bI,or_true,true_or,an,eo (show ¬(out.length+mo.length)=0 by omega),fU hq,hql])<;>(repeat' apply a4)<;>first | exact .inr rfl | exact .inl rfl | trivial)),r',mo,out++mo,fu-1,⟨hrn2,hme.2⟩,hgo,hsz2,rfl,rfl⟩
def BG(l1 l2 l3 l4 l5 l6:Int):List SV:=[ab l1,ab l2,ab l3,ab l4,ab l5,ab l6]
def RL(a b x y:List SV)(off:Nat)(h:off=a.length):((a++(x++(y++b))).drop (off+x.length)).take y.length=y:=by
 subst h;rw[cb,show a.length+x.length-a.length=x.length by omega,a5 i4,nil_append,cb,ck,a5 (ay _),nil_append,drop_zero,bd (ay _),a8 (ay _)]
def Sf(a b x y z:List SV)(off:Nat)(h:off=a.length)(hz:z.length=y.length):(a++(x++(y++b))).take (off+x.length)++(z++(a++(x++(y++b))).drop (off+x.length+z.length))=a++(x++(z++b)):=by
 subst h
 rw[e6,show a.length+x.length-a.length=x.length by omega,a8 i4,bd (ay _),a8 (ay _),
  cb,a5 i4,nil_append,show a.length+x.length+z.length-a.length=x.length+z.length by omega,cb,a5 i4,nil_append,show x.length+z.length-x.length=y.length by omega,cb,a5 (ay _),nil_append,ck,drop_zero]
 simp
def NI(l1 l2 l3 l4 l5 l6:Int)(u:js)(d1 d2:Int):List SV:=BG (fj jN l1 l2 u.u1 u.u2).1 (fj jN l1 l2 u.u1 u.u2).2 (fj jN l3 l4 u.u3 u.u4).1 (fj jN l3 l4 u.u3 u.u4).2 (fj jN l5 l6 d1 d2).1 (fj jN l5 l6 d1 d2).2
def DW(a b:List SV)(l1 l2 l3 l4 l5 l6:Int)(u:js)(d1 d2:Int)(hg:bR (a++(BG l1 l2 l3 l4 l5 l6++b))=true):SC aa 52 [.ptr 0 a.length,.ag (eg u),kW d1 d2] [.cells (a++(BG l1 l2 l3 l4 l5 l6++b))] []
 (λr S'=>r=.cx []/\S'=[.cells (a++(NI l1 l2 l3 l4 l5 l6 u d1 d2++b))]):=by
 refine OE 35 Tryz.func52 ?_;have hp1:=pU l1 l2 u.u1 u.u2;have hp2:=pU l3 l4 u.u3 u.u4;have hp3:=pU l5 l6 d1 d2;unfold NI;generalize fj jN l1 l2 u.u1 u.u2=q1 at hp1 ⊢;generalize fj jN l3 l4 u.u3 u.u4=q2 at hp2 ⊢;generalize fj jN l5 l6 d1 d2=q3 at hp3 ⊢;obtain⟨cs,hcs⟩:∃cs,cs=a++(BG l1 l2 l3 l4 l5 l6++b):=⟨_,rfl⟩;rw[<-hcs] at hg ⊢;have hk:∀o:Nat,cs.map (aM o)=cs:=λo=>bQ hg
 have hl:cs.length=a.length+(6+b.length):=by rw[hcs,li,li];rfl
 have g1:(cs.drop a.length).take 2=[ab l1,ab l2]:=by rw[hcs];exact RL a (ab l3::ab l4::ab l5::ab l6::b) [] [ab l1,ab l2] a.length rfl
 have g2:(cs.drop (a.length+2)).take 2=[ab l3,ab l4]:=by rw[hcs];exact RL a (ab l5::ab l6::b) [ab l1,ab l2] [ab l3,ab l4] a.length rfl
 have g3:(cs.drop (a.length+4)).take 2=[ab l5,ab l6]:=by rw[hcs];exact RL a b [ab l1,ab l2,ab l3,ab l4] [ab l5,ab l6] a.length rfl
 obtain⟨c1,hc1⟩:∃c1,c1=cs.take a.length++(ab q1.1::ab q1.2::cs.drop (a.length+2)):=⟨_,rfl⟩
 have e1:c1=a++([ab q1.1,ab q1.2]++([ab l3,ab l4,ab l5,ab l6]++b)):=by rw[hc1,hcs];exact Sf a (ab l3::ab l4::ab l5::ab l6::b) [] [ab l1,ab l2] [ab q1.1,ab q1.2] a.length rfl rfl
 obtain⟨c2,hc2⟩:∃c2,c2=c1.take (a.length+2)++(ab q2.1::ab q2.2::c1.drop (a.length+2+2)):=⟨_,rfl⟩
 have e2:c2=a++([ab q1.1,ab q1.2]++([ab q2.1,ab q2.2]++([ab l5,ab l6]++b))):=by rw[hc2,e1];exact Sf a (ab l5::ab l6::b) [ab q1.1,ab q1.2] [ab l3,ab l4] [ab q2.1,ab q2.2] a.length rfl rfl
 obtain⟨c3,hc3⟩:∃c3,c3=c2.take (a.length+4)++(ab q3.1::ab q3.2::c2.drop (a.length+4+2)):=⟨_,rfl⟩
 have e3:c3=a++(BG q1.1 q1.2 q2.1 q2.2 q3.1 q3.2++b):=by rw[hc3,e2];exact Sf a b [ab q1.1,ab q1.2,ab q2.1,ab q2.2] [ab l5,ab l6] [ab q3.1,ab q3.2] a.length rfl rfl
 have hl1:c1.length=a.length+(6+b.length):=by rw[e1];simp;omega
 have hl2:c2.length=a.length+(6+b.length):=by rw[e2];simp;omega
 rw[<-e3];refine(aD (cJ @eg.eq_1 @kW.eq_1 hk)) ?_;refine aG.post ?_;refine(zs) ?_;refine nh [0,0,0,0,8,24,56,0,128,504,0,1024,3072,7168,0,16384,65528,0,131072,393216,917504,0,4194296,8388601,16777209,33554425,67108859,134217723,268435451,536870911,1073741823,2147483647] ?_;refine(uH (gm hl (show a.length+2<=a.length+(6+b.length) by omega) g1 @ba)) ?_;refine SD.k ii rfl rfl ii rfl rfl (Cg @kW.eq_1) (hp1) (zw) rfl ?_;refine(uH (lk hl @fv (show a.length+4<=a.length+(6+b.length) by omega) g2 @ba)) ?_;refine SD.k ii rfl rfl ii rfl rfl (Cg @kW.eq_1) (hp2) (zw) rfl ?_;refine(uH (lk hl @fv (show a.length+6<=a.length+(6+b.length) by omega) g3 @ba)) ?_;refine SD.k ii rfl rfl ii rfl rfl (Cg @kW.eq_1) (hp3) (zw) rfl ?_;refine(uH @ba) ?_;refine SD.e ii rfl ii rfl rfl ii (me (uP @oi.eq_1 @kW.eq_1 hl @ba (show a.length+2<=a.length+(6+b.length) by omega) (Eq.symm hc1))) ?_;refine(uH @ba) ?_;refine SD.e ii rfl ii rfl rfl ii (me (lk @oi.eq_1 @kW.eq_1 hl1 (show a.length+2+2<=a.length+(6+b.length) by omega) (Eq.symm hc2))) ?_;refine(uH @ba) ?_;refine SD.e ii rfl ii rfl rfl ii (me (lk @oi.eq_1 @kW.eq_1 hl2 (show a.length+4+2<=a.length+(6+b.length) by omega) (Eq.symm hc3))) ?_;refine(zM) ?_;refine⟨⟨[(1000000,.ptr 0 0)],35,[.cells c3],[]⟩,(cf @lB.eq_1),?_⟩;exact zP []
abbrev sj:Nat:=1000000000000000
def gF{α:Type}{p:α->Bool}{l:List α}{k:Nat}{x:α}(hx:l[k]?=some x)(h:(l.take k).all p=true)(hp:p x=true):(l.take (k+1)).all p=true:=by
 rw[cM hx,dv,h];show(true&&(p x&&true))=true;rw[hp];rfl
inductive kI:bC->Prop
 | mk {op n:Int} {kids:List bC}:kids.length<=sj->(∀k∈kids,kI k)->kI (.mk op n kids)
def uy:∀(d:Nat) (f:bC),SizeOf.sizeOf f<d->kI f->∀most:Int,PC Tryz.prog 154 [.ag (aF f),ab most] (·=ab (fC f most))
 | 0,f,hd,_,_=>un hd (Nat.not_lt_zero _)
 | d+1,.mk op n kids,hd,hf,most=>by
  cases hf with
  | mk hlen hks=>
  have hkd:∀k∈kids,SizeOf.sizeOf k<d:=λk hk=>by
   have h1:=List.sizeOf_lt_of_mem hk
   have h2:SizeOf.sizeOf (bC.mk op n kids)=1+SizeOf.sizeOf op+SizeOf.sizeOf n+SizeOf.sizeOf kids:=by simp
   omega
  rw[dn,fC]
  refine pB 31 Tryz.func154 ?_;refine(zV) ?_;refine zZ [(1,ab most),(2,.ip [ab op,ab n,an 3 kids aF])] 0 rfl (gw @an.eq_1)<|zA [(1,ab most),(2,.ip [ab op,ab n,an 3 kids aF])] [] zH<|(om)<|(zs) ?_;refine Ho kids (λk (acc:Int)=>gS kids most 1=gS (kids.drop k) most acc) (λk acc=>[(1,ab most),(2,.ip [ab op,ab n,an 3 kids aF]),(5,ab acc),(6,ab k)]) (λk acc=>[]) (1) zH ii ?_;intro k acc hk hall
  by_cases hlt:k<kids.length;rotate_left
  ·refine(aD (show decide ((k:Int)<(kids.length:Int))=false by simp only[wn];omega))<|(gg) ?_
   rw[List.drop_of_length_le i4,gS] at hall
   exact(zV)<|zo [.tmp 4] (hq:=by rw[hall])
  have hd:=show decide ((k:Int)<(kids.length:Int))=true by simp only[wp];omega
  obtain⟨x,hx⟩:∃x,kids[k]?=some x:=⟨kids[k],jp hlt⟩;rw[eV hx,gS] at hall;have hxm:=List.mem_of_getElem? hx;have ih:=uy d x (hkd x hxm) (hks x hxm);have hxl:((kids.flatMap aF).drop (k*3)).take 3=aF x:=aQ (e:=3) (enc:=aF) eW hx;obtain⟨op',n',kids'⟩:=x;simp only[dn] at hxl ih;cases h1:decide (acc<=most)
  ·rw[ut (by have:=wt h1;omega)] at hall
   exact(aD (bu hd h1))<|(gg)<|(zV)<|zo [.tmp 4] (hq:=by rw[hall])
  rw[v6 (by have:=ww h1;omega)] at hall
  refine(aD (bu hd h1))<|(gA)<|(e9 (cJ hlt hxl @ot))<|(zK (ih (uh most acc)))<|(cP @sU)<|(aD (zi hlt hlen)) ?_;refine w8 hlt (Co acc (fC (.mk op' n' kids') (uh most acc))) zH hall
def GO(f:bC)(hf:kI f)(most:Int):PC aa 154 [.ag (aF f),ab most] (·=ab (fC f most)):=uy _ f (be _) hf most
def E1(f:bC):Bool:=decide (fC f 80<=80)
def IK(f:bC)(hf:kI f):PC aa 73 [.ag (aF f)] (·=ai (Proofs.E1 f)):=by
 refine pB 6 Tryz.func73 ?_;have hN:=GO f hf 80;unfold Proofs.E1;generalize fC f 80=q at hN ⊢;obtain⟨op,n,kids⟩:=f;rw[dn] at hN ⊢
 exact(jr)<|(zK hN)<|(zR)<|zo [.tmp 2]
def Jr{a b:Int}(h : -9223372036854775808<=a+b/\a+b<=9223372036854775807):Co a b=a+b:=by
 have h1:(uG (-9223372036854775808) (a+b)&&uG (a+b) 9223372036854775807)=true:=by
  rw[gq,gq];simp[h.1,h.2]
 unfold Co;simp only[dX,P0,PO,h1,ak]
def Kx{a b:Int}(h : -9223372036854775808<=a-b/\a-b<=9223372036854775807):uh a b=a-b:=by
 have h1:(uG (-9223372036854775808) (a-b)&&uG (a-b) 9223372036854775807)=true:=by
  rw[gq,gq];simp[h.1,h.2]
 unfold uh;simp only[dX,P0,PO,h1,ak]
def BR:∀(d:Nat) (f:bC),SizeOf.sizeOf f<d->∀most:Int,-1000<=most->most<=1000->1<=fC f most/\(fC f most<=most+1\/fC f most=1)/\(fC f most<=most->gD f)
 | 0,f,hd,_,_,_=>un hd (Nat.not_lt_zero _)
 | d+1,.mk op n kids,hd,most,h0,h1=>by
  have hkd:∀k∈kids,SizeOf.sizeOf k<d:=λk hk=>by
   have h1:=List.sizeOf_lt_of_mem hk
   have h2:SizeOf.sizeOf (bC.mk op n kids)=1+SizeOf.sizeOf op+SizeOf.sizeOf n+SizeOf.sizeOf kids:=by simp
   omega
  have key:∀(ks:List bC) (acc:Int),(∀k∈ks,k∈kids)->1<=acc->(acc<=most+1\/acc=1)->1<=gS ks most acc/\(gS ks most acc<=most+1\/gS ks most acc=1)/\(gS ks most acc<=most->acc+ks.length<=gS ks most acc/\∀k∈ks,gD k):=by
   intro ks
   induction ks with
   | nil=>intro acc _ h2 h3;rw[gS];exact⟨h2,h3,λ_=>⟨by simp,λk hk=>by cases hk⟩⟩
   | cons k ks ih=>
    intro acc hm h2 h3;rw[gS];split
    ·rename_i hlt;exact⟨h2,h3,λh=>by omega⟩
    ·rename_i hlt;rw[Kx i4];obtain⟨b1,b2,b3⟩:=BR d k (hkd k (hm k List.mem_cons_self)) (most-acc) i4 i4;rw[Jr i4];obtain⟨c1,c2,c3⟩:=ih (acc+fC k (most-acc)) (λx hx=>hm x (List.mem_cons_of_mem _ hx)) i4 i4;refine⟨c1,c2,λh=>?_⟩;obtain⟨d1,d2⟩:=c3 h;refine⟨by rw[i7];omega,λx hx=>?_⟩
     rcases t7 hx with rfl | hx
     ·exact b3 i4
     ·exact d2 x hx
  rw[fC];obtain⟨c1,c2,c3⟩:=key kids 1 (λ_ h=>h) (Int.le_refl _) (.inr rfl);refine⟨c1,c2,λh=>?_⟩;obtain⟨d1,d2⟩:=c3 h;exact .mk i4 d2
def Nn{f:bC}(h:E1 f=true):gD f:=(BR _ f (be _) 80 g9 g9).2.2 (ww h)
def pQ(s:jV):Bool:=!(decide (100<(s.name.length:Int)))&&(!(decide (15<(s.kinds.length:Int)))&&s.kinds.all λn=>!(decide (100<(n.length:Int))))
def nZ(k:aV):Bool:=!(decide (100<(k.name.length:Int)))&&(!(decide (15<(k.bL.length:Int)))&&k.bL.all pQ)
def ti(c:List aV):Bool:=!(decide (65<(c.length:Int)))&&c.all nZ
def iu{α:Type}{p:α->Bool}{l:List α}{x:α}(hx:x∈l)(hp:p x=false):l.all p=false:=Bool.eq_false_iff.2 λh=>by
 have:=all_eq_true.1 h x hx;rw[hp] at this;cases this
def IL(c:List aV):PC aa 72 [.ag [an 3 c ao]] (·=ai (Proofs.ti c)):=by
 refine pB 80 Tryz.func72 ?_;refine(zV) ?_;refine zZ [(1,.ip [an 3 c ao])] 0 rfl (gw @an.eq_1)<|zA [(1,.ip [an 3 c ao])] [] zH ?_
 cases g1:decide (65<(c.length:Int));rotate_left
 ·exact(aD g1)<|(cI)<|zo [.tmp 2] (hq:=by rw[Proofs.ti,g1];rfl)
 have hlen:c.length<=1000000:=by have:=wt g1;omega
 have hN:Proofs.ti c=c.all nZ:=by rw[Proofs.ti,g1];rfl
 refine(aD g1)<|(lj)<|(zs) ?_;refine zL c (λk=>(c.take k).all nZ=true) (λk=>[(1,.ip [an 3 c ao]),(3,ab k)]) (λk=>[]) zH zp ?_;intro k hk hall
 by_cases hlt:k<c.length;rotate_left
 ·obtain rfl:k=c.length:=by omega
  rw[bb] at hall
  exact(aD (show decide ((c.length:Int)<(c.length:Int))=false by simp))<|(gg)<|(zV)<|zo [.tmp 2] (hq:=by rw[hN,hall])
 have hd:=show decide ((k:Int)<(c.length:Int))=true by simp only[wp];omega
 obtain⟨x,hx⟩:∃x,c[k]?=some x:=⟨c[k],jp hlt⟩
 have hbad:nZ x=false->Proofs.ti c=false:=λh=>by rw[hN];exact iu (al hx) h
 refine(aD hd)<|(gA) ?_
 (repeat refine aG.seq ?_)
 refine(aD (cJ hlt (aQ (e:=3) (enc:=ao) gc hx) @ao.eq_1)) ?_;refine zZ [(1,.ip [an 3 c ao]),(3,ab k),(4,.ip [ah x.name,ai x.vehicle,an 3 x.bL bH])] 0 rfl (gw @an.eq_1)<|zA [(1,.ip [an 3 c ao]),(3,ab k),(4,.ip [ah x.name,ai x.vehicle,an 3 x.bL bH])] [] zH ?_
 cases j1:decide (100<(x.name.length:Int));rotate_left
 ·exact(aD j1)<|(cI)<|zo [.tmp 2] (hq:=by rw[hbad (by rw[nZ,j1];rfl)])
 cases j2:decide (15<(x.bL.length:Int));rotate_left
 ·exact(aD (bu j1 j2))<|(cI)<|zo [.tmp 2] (hq:=by rw[hbad (by rw[nZ,j1,j2];rfl)])
 have hkx:nZ x=x.bL.all pQ:=by rw[nZ,j1,j2];rfl
 have hlen2:x.bL.length<=1000000:=by have:=wt j2;omega
 refine(aD (bu j1 j2))<|(lj)<|(zs) ?_;refine zL x.bL (λk2=>(x.bL.take k2).all pQ=true) (λk2=>[(1,.ip [an 3 c ao]),(3,ab k),(4,.ip [ah x.name,ai x.vehicle,an 3 x.bL bH]),(5,ab k2)]) (λk2=>[]) zH zp ?_;intro k2 hk2 hall2
 by_cases hlt2:k2<x.bL.length;rotate_left
 ·obtain rfl:k2=x.bL.length:=by omega
  rw[bb] at hall2
  refine(aD (show decide ((x.bL.length:Int)<(x.bL.length:Int))=false by simp))<|(gg)<|(aD (zi hlt hlen)) ?_;refine zX hlt zH (gF hx hall (by rw[hkx,hall2]))
 have hd2:=show decide ((k2:Int)<(x.bL.length:Int))=true by simp only[wp];omega
 obtain⟨y,hx2⟩:∃y,x.bL[k2]?=some y:=⟨x.bL[k2],jp hlt2⟩
 have hbad2:pQ y=false->nZ x=false:=λh=>by rw[hkx];exact iu (al hx2) h
 refine(aD hd2)<|(gA) ?_
 (repeat refine aG.seq ?_)
 cases j3:decide (100<(y.name.length:Int));rotate_left
 ·exact(aD (gm hlt2 (aQ (e:=3) (enc:=bH) gc hx2) @bH.eq_1 j3))<|(cI)<|zo [.tmp 2] (hq:=by rw[hbad (hbad2 (by rw[pQ,j3];rfl))])
 cases j4:decide (15<(y.kinds.length:Int));rotate_left
 ·exact(aD (lk hlt2 (aQ (e:=3) (enc:=bH) gc hx2) @bH.eq_1 j3 j4))<|(cI)<|zo [.tmp 2] (hq:=by rw[hbad (hbad2 (by rw[pQ,j3,j4];rfl))])
 have hky:pQ y=y.kinds.all λn=>!(decide (100<(n.length:Int))):=by rw[pQ,j3,j4];rfl
 have hlen3:y.kinds.length<=1000000:=by have:=wt j4;omega
 refine(aD (lk hlt2 (aQ (e:=3) (enc:=bH) gc hx2) @bH.eq_1 j3 j4))<|(lj)<|(zs) ?_;refine zL y.kinds (λk3=>((y.kinds.take k3).all λn=>!(decide (100<(n.length:Int))))=true) (λk3=>[(1,.ip [an 3 c ao]),(3,ab k),(4,.ip [ah x.name,ai x.vehicle,an 3 x.bL bH]),(5,ab k2),(6,ab k3)]) (λk3=>[]) zH zp ?_;intro k3 hk3 hall3
 by_cases hlt3:k3<y.kinds.length;rotate_left
 ·obtain rfl:k3=y.kinds.length:=by omega
  rw[bb] at hall3
  refine(aD (gm hlt2 (aQ (e:=3) (enc:=bH) gc hx2) @bH.eq_1 (show decide ((y.kinds.length:Int)<(y.kinds.length:Int))=false by simp)))<|(gg)<|(aD (zi hlt2 hlen2)) ?_;refine zX hlt2 zH (gF hx2 hall2 (by rw[hky,hall3]))
 have hd3:=show decide ((k3:Int)<(y.kinds.length:Int))=true by simp only[wp];omega
 obtain⟨z,hx3⟩:∃z,y.kinds[k3]?=some z:=⟨y.kinds[k3],jp hlt3⟩
 refine(aD (gm hlt2 (aQ (e:=3) (enc:=bH) gc hx2) @bH.eq_1 hd3))<|(gA) ?_
 cases j5:decide (100<(z.length:Int));rotate_left
 ·exact(aD (Hm hlt2 (aQ (e:=3) (enc:=bH) gc hx2) @bH.eq_1 hlt3 (aQ (e:=1) (enc:=aH ah) gc hx3) @aH.eq_1 j5))<|(cI)<|zo [.tmp 2] (hq:=by rw[hbad (hbad2 (by rw[hky];exact iu (al hx3) (by rw[j5];rfl)))])
 refine(aD (Hm hlt2 (aQ (e:=3) (enc:=bH) gc hx2) @bH.eq_1 hlt3 (aQ (e:=1) (enc:=aH ah) gc hx3) @aH.eq_1 j5))<|(zN)<|(aD (zi hlt3 hlen3)) ?_;refine zX hlt3 zH (gF hx3 hall3 (by rw[j5];rfl))
structure T2 (e:bB):Prop where
 part:∀b∈e.part,b<256
 kind:∀b∈e.kind,b<256
 br:∀b∈e.br,b<256
 slot:∀b∈e.slot,b<256
 key:∀b∈e.key,b<256
 value:∀b∈e.value,b<256
def No{c:List aV}(h:ti c=true)(hb:∀k∈c,(∀b∈k.name,b<256)/\∀s∈k.bL,∀b∈s.name,b<256):mz c:=by
 unfold ti at h;simp only[ca,dc,wn,all_eq_true] at h
 have hk:∀k∈c,k.name.length<=100/\k.bL.length<=15/\∀s∈k.bL,s.name.length<=100/\s.kinds.length<=15:=λk hk=>by
  have:=h.2 k hk;unfold nZ at this;simp only[ca,dc,wn,all_eq_true] at this;refine⟨by omega,by omega,λs hs=>?_⟩;have:=this.2.2 s hs;unfold pQ at this;simp only[ca,dc,wn] at this;omega
 exact⟨by omega,λk h1=>⟨⟨by have:=hk k h1;omega,(hb k h1).1⟩,by have:=hk k h1;omega⟩,λk h1 s hs=>⟨⟨by have:=(hk k h1).2.2 s hs;omega,(hb k h1).2 s hs⟩,by have:=(hk k h1).2.2 s hs;omega⟩⟩
end Go.Proofs
namespace Go.Ev
open Go.RowKit Go.ChangeShapes Go.WideShapes Go.Deep
noncomputable section
mutual
def EY:DV->SV
 | .fl a=>.a a
 | .sl _ n e cs=>.sl n e (eO cs)
 | .ag cs=>.ag (eO cs)
def eO:List DV->List SV
 | []=>[]
 | d::ds=>EY d::eO ds
end
def EZ:∀a b:List DV,eO (a++b)=eO a++eO b
 | [],b=>rfl
 | d::a,b=>by rw[cons_append,eO,eO,EZ a b,cons_append]
def Iu(h:H):j6:=λid=>if id<h.next then h.aW.get id else none
def QC(h:H):Mt (Iu h) h:=by
 intro id ob hi;unfold Iu at hi;split at hi
 ·rename_i hl;exact⟨hl,hi⟩
 ·cases hi
def Oo{h:H}{id:Nat}{row:List AV}(hl:id<h.next)(hr:rS h.aW id=some row):vw (Iu h) id=some row:=by
 unfold vw Iu;rw[ut hl];unfold rS at hr
 cases hg:h.aW.get id with
 | none=>rw[hg] at hr;cases hr
 | some o=>
  rw[hg] at hr
  cases o<;>first | exact hr | cases hr
mutual
def Dp.gs{s:Bool}{h:H}:∀{d:DV} {a:AV},Dp s h d a->GS (Iu h) (EY d) a
 | .fl a0,a,hd=>by
  rw[SP] at hd;rw[EY,GS];exact hd.1
 | .sl nl n e cs,a,hd=>by
  rw[Jq] at hd;rw[EY,GS]
  rcases hd with⟨h1,h2,⟨o,e',c,h3,h4,h5⟩,_⟩ | ⟨_,id,off,cap,row,aS,e1,h1,h2,h3,h4,h5⟩
  ·subst h2;exact .inl ⟨h1,by rw[eO],o,e',c,by rw[h3],h4,h5⟩
  ·exact .inr ⟨id,off,cap,row,e1,Oo h1 h2,h3,by rw[<-h4];exact Em.gs h5⟩
 | .ag cs,a,hd=>by
  rw[SM] at hd;obtain⟨aS,e1,h1⟩:=hd;rw[EY,GS];exact⟨aS,e1,Em.gs h1⟩
def Em.gs{s:Bool}{h:H}:∀{ds:List DV} {aS:List AV},Em s h ds aS->jR (Iu h) (eO ds) aS
 | [],aS,hd=>by rw[Pa] at hd;rw[eO,jR];exact hd
 | d::ds,aS,hd=>by
  rw[Mo] at hd;obtain⟨a,r,e1,h1,h2⟩:=hd;rw[eO,jR];exact⟨a,r,e1,Dp.gs h1,Em.gs h2⟩
end
def RZ{P:Program}(hng:sP P){f:FuncId}{fn:Func}(hf:P.funcs[f]?=some fn)(hb:fn.body.isSome=true){w:World}{ds:List DV}{args':Array Value}(hw:nr w ds args'.toList)
 (hc:PC P f (eO ds) (·=.a (.bool true))):Calls P f args' w λe w'=>e=.returned (.bool true)/\Below w.heap.size w w':=by
 obtain⟨σ,k1,k2⟩:=hw.lay;have hd:=nr.dp (rows:=(eR ds 0).2) hw 0 (λi r hr=>by rw[fx];exact hr);have hfine:=hc (Iu _) _ _ (QC _) hd.gs σ w args' k1 k2;rw[ec hng hf hb] at hfine;refine Calls.mono hfine λe w' ⟨x,he,a,h',⟨r,ρ',hr,_,_,hg⟩,σ',hV,hr',hE⟩=>?_;subst hr;rw[GS] at hg;subst hg;cases hV;exact⟨he,HP hE⟩
end
end Go.Ev
namespace Go.Proofs
open Go.Ev
set_option maxRecDepth 100000
abbrev i6:Ty:=.int .i64
def K4:List Ty:=[i6,i6,.str,.str,.str,.str,.str,.str,.st [.st [i6,i6],.st [i6,i6],.st [i6,i6]]]
def Iy:List Ty:=[.str,.sl .str,i6]
def ve:List Ty:=[.str,.bool,.sl (.st Iy)]
def oB:Nat->Ty
 | 0=>.no 3
 | 1=>.st [.no 1,.no 1,.no 1]
 | j+2=>.st [i6,i6,.sl (oB j)]
def sz:∀j,(oB j).size=3
 | 0=>rfl
 | 1=>rfl
 | j+2=>rfl
def mV{α:Type}(enc:α->List SV)(ok:α->Prop):∀{rows:List (List DV)},(∀r∈rows,∃x,eO r=enc x/\ok x)->∃xs:List α,xs.length=rows.length/\eO rows.flatten=xs.flatMap enc/\∀x∈xs,ok x
 | [],_=>⟨[],rfl,rfl,λx hx=>by cases hx⟩
 | r::rows,h=>by
  obtain⟨x,h1,h2⟩:=h r e4;obtain⟨xs,h3,h4,h5⟩:=mV enc ok (rows:=rows) λq hq=>h q (d6 _ hq);refine⟨x::xs,by rw[i7,i7,h3],by rw[List.flatten_cons,EZ,h1,h4,flatMap_cons],λy hy=>?_⟩
  rcases t7 hy with rfl | hy
  ·exact h2
  ·exact h5 y hy
def nw{α:Type}{enc:α->List SV}{nl:Bool}{e:Nat}{rows:List (List DV)}{xs:List α}(h1:xs.length=rows.length)(h2:eO rows.flatten=xs.flatMap enc):EY (.sl nl rows.length e rows.flatten)=an e xs enc:=by
 rw[EY,h2,an,h1]
section
variable {B:Nat} {ds:List DV}
def S7(hk:dY B K4 ds):∃e:bB,eO ds=ar e/\T2 e:=by
 unfold K4 at hk;obtain⟨a1,r,rfl,_,hk⟩:=dI hk;obtain⟨a2,r,rfl,_,hk⟩:=dI hk;obtain⟨s1,r,rfl,b1,_,hk⟩:=cY hk;obtain⟨s2,r,rfl,b2,_,hk⟩:=cY hk;obtain⟨s3,r,rfl,b3,_,hk⟩:=cY hk;obtain⟨s4,r,rfl,b4,_,hk⟩:=cY hk;obtain⟨s5,r,rfl,b5,_,hk⟩:=cY hk;obtain⟨s6,r,rfl,b6,_,hk⟩:=cY hk;have hk:dY B [.st [i6,i6],.st [i6,i6],.st [i6,i6]] r:=tL hk;have hk:dY B [i6,i6,.st [i6,i6],.st [i6,i6]] r:=tL hk;obtain⟨u1,r,rfl,_,hk⟩:=dI hk;obtain⟨u2,r,rfl,_,hk⟩:=dI hk;have hk:dY B [i6,i6,.st [i6,i6]] r:=tL hk;obtain⟨u3,r,rfl,_,hk⟩:=dI hk;obtain⟨u4,r,rfl,_,hk⟩:=dI hk;have hk:dY B [i6,i6] r:=tL hk;obtain⟨u5,r,rfl,_,hk⟩:=dI hk;obtain⟨u6,r,rfl,_,hk⟩:=dI hk;have:=gT hk;subst this;exact⟨⟨a1,a2,s1,s2,s3,s4,s5,s6,u1,u2,u3,u4,u5,u6⟩,by simp only[eO,EY,ar],⟨b1,b2,b3,b4,b5,b6⟩⟩
def Sm(hk:kr B .str ds):∃s:List Nat,eO ds=aH ah s/\∀b∈s,b<256:=by
 rw[kr] at hk;obtain⟨s,rfl,h1,_⟩:=hk;exact⟨s,by simp only[eO,EY,aH],h1⟩
def QH(hk:dY B Iy ds):∃s:jV,eO ds=bH s/\∀b∈s.name,b<256:=by
 unfold Iy at hk;obtain⟨s1,r,rfl,b1,_,hk⟩:=cY hk;obtain⟨nl,rows,r,rfl,_,hr,hk⟩:=iw hk;obtain⟨a2,r,rfl,_,hk⟩:=dI hk;have:=gT hk;subst this;obtain⟨xs,h1,h2,_⟩:=mV (aH ah) (λs=>∀b∈s,b<256) λr hrr=>Sm (hr r hrr);exact⟨⟨s1,xs,a2⟩,by simp only[eO,nw h1 h2,bH];rfl,b1⟩
def PX(hk:dY B ve ds):∃k:aV,eO ds=ao k/\((∀b∈k.name,b<256)/\∀s∈k.bL,∀b∈s.name,b<256):=by
 unfold ve at hk;obtain⟨s1,r,rfl,b1,_,hk⟩:=cY hk;obtain⟨v,r,rfl,hk2⟩:=Lu hk;obtain⟨nl,rows,r,rfl,_,hr,hk⟩:=iw hk2;have:=gT hk;subst this;obtain⟨xs,h1,h2,h3⟩:=mV bH (λs=>∀b∈s.name,b<256) λr hrr=>QH (by have:=hr r hrr;rw[kr] at this;exact this);exact⟨⟨s1,v,xs⟩,by simp only[eO,nw h1 h2,ao];rfl,b1,h3⟩
def Nu(hB:B<=sj):∀(j:Nat) {ds:List DV},kr B (oB j) ds->∃f:bC,eO ds=aF f/\kI f
 | 0,ds,h=>by
  rw[oB,kr] at h;exact h.elim
 | 1,ds,h=>by
  rw[oB,kr,dY] at h;obtain⟨_,_,_,h,_⟩:=h;rw[kr] at h;exact h.elim
 | j+2,ds,h=>by
  rw[oB,kr] at h;obtain⟨a1,r,rfl,_,hk⟩:=dI h;obtain⟨a2,r,rfl,_,hk⟩:=dI hk;obtain⟨nl,rows,r,rfl,hl,hr,hk⟩:=iw hk;have:=gT hk;subst this;obtain⟨xs,h1,h2,h3⟩:=mV aF kI λr hrr=>Nu hB j (hr r hrr);refine⟨.mk a1 a2 xs,?_,.mk i4 h3⟩;rw[dn,sz];simp only[eO,EY,nw h1 h2,h2,h1]
end
def OJ{B:Nat}(hB:B<=sj){j:Nat}{ds:List DV}(hk:dY B [.st [.sl (.st ve)],oB j] ds):∃(c:List aV) (f:bC),eO ds=an 3 c ao::aF f/\kI f/\∀k∈c,(∀b∈k.name,b<256)/\∀s∈k.bL,∀b∈s.name,b<256:=by
 have hk:dY B [.sl (.st ve),oB j] ds:=tL hk;obtain⟨nl,rows,r,rfl,hl,hr,hk⟩:=iw hk;rw[dY] at hk;obtain⟨d1,d2,rfl,h1,h2⟩:=hk;rw[dY] at h2;subst h2;obtain⟨f,h3,h4⟩:=Nu hB j h1;obtain⟨xs,k1,k2,k3⟩:=mV ao (λk=>(∀b∈k.name,b<256)/\∀s∈k.bL,∀b∈s.name,b<256) λr hrr=>PX (by have:=hr r hrr;rw[kr] at this;exact this);exact⟨xs,f,by rw[eO,nw k1 k2,a9,h3];rfl,h4,k3⟩
noncomputable def io(L:Nat->Prop)(i:Nat)(x y:SO):SO:=@ite _ (L i) (Classical.propDecidable _) x y
def CX{L:Nat->Prop}{i:Nat}{x y:SO}(h:L i):io L i x y=x:=ut h
def yz{L:Nat->Prop}{i:Nat}{x y:SO}(h:¬L i):io L i x y=y:=v6 h
def lV(L:Nat->Prop)(i k:Nat)(x y:SO):io (λj=>L j\/j=i) k x y=if k=i then x else io L k x y:=by
 by_cases h:k=i
 ·rw[ut h];exact CX (.inr h)
 ·rw[v6 h];by_cases hl:L k
  ·rw[CX hl,CX (.inl hl)]
  ·rw[yz hl,yz λh'=>h'.elim hl h]
def PW(o:Nat)(L:Nat->Prop)(i:Nat)(x y:SO):bF o (io L i x y)=io L i (bF o x) (bF o y):=by
 unfold io;split<;>rfl
def Rs(r:Nat->Nat)(L:Nat->Prop)(i:Nat)(x y:SO):pM r (io L i x y)=io L i (pM r x) (pM r y):=by
 unfold io;split<;>rfl
def qT(e:bB):js:=⟨e.u1,e.u2,e.u3,e.u4,e.u5,e.u6⟩
def xc(u:js)(d:Int×Int)(p:aq):aq:={ p with l1:=(fj jN p.l1 p.l2 u.u1 u.u2).1,l2:=(fj jN p.l1 p.l2 u.u1 u.u2).2,l3:=(fj jN p.l3 p.l4 u.u3 u.u4).1,l4:=(fj jN p.l3 p.l4 u.u3 u.u4).2,l5:=(fj jN p.l5 p.l6 d.1 d.2).1,l6:=(fj jN p.l5 p.l6 d.1 d.2).2 }
def Aq(dmg:bC)(ins:List (List Nat))(e:bB)(p:aq):aq:=if ins.contains p.name=true then xc (qT e) (qZ dmg (qT e)) p else p
def Hf(dmg:bC)(ps:List aq)(e:bB):List aq:=ps.map (Aq dmg (fP ps e.part++[e.part]) e)
def oS(c:List aV)(dmg:bC):Nat->List bB->List aq->List aq×Int×Int
 | _,[],s=>(s,-1,0)
 | i,e::r,s=>if (aX c s e).2=0 then (if e.op=4 then oS c dmg (i+1) r (Hf dmg (aX c s e).1 e) else oS c dmg (i+1) r (aX c s e).1) else ([],(i:Int),(aX c s e).2)
def fe(day:Int)(e:bB):Bool:=decide (day<e.day)
def runN(c:List aV)(dmg:bC)(l:List bB)(day:Int):List aq×Int×Int:=if (qk c&&iC dmg)=true then oS c dmg 0 (eL (dV (fe day) l)) [] else ([],-1,1)
def Tn(r:List aq×Int×Int):SV:=.cx [.ag [an 14 r.1 ae],ab r.2.1,ab r.2.2]
def fq.Uc{p:aq}(h:fq p)(u:js)(d:Int×Int):fq (xc u d p):=⟨h.name,h.kind,h.br,h.slot,h.len,h.prop⟩
def F6{l:List aq}{x p:aq}(h:p∈df l x):p=x\/p∈l:=by
 unfold df at h;split at h
 ·rcases cv h with h | h
  ·exact .inr h
  ·exact .inl h
 ·rcases List.mem_append.1 h with h | h
  ·exact .inr (d8 h)
  ·rcases t7 h with h | h
   ·exact .inl h
   ·exact .inr (d7 h)
def F7{l:List bN}{x p:bN}(h:p∈nG l x):p=x\/p∈l:=by
 unfold nG at h;split at h
 ·rcases cv h with h | h
  ·exact .inr h
  ·exact .inl h
 ·rcases List.mem_append.1 h with h | h
  ·exact .inr (d8 h)
  ·rcases t7 h with h | h
   ·exact .inl h
   ·exact .inr (d7 h)
def F5(l:List aq)(x:aq):(df l x).length<=l.length+1:=by
 unfold df;split
 ·rw[dC];omega
 ·rw[li,i7,a7,e5];omega
def Iq{l:List aq}{x:aq}:df l x≠[]:=by
 unfold df;split
 ·rename_i h;intro e;have e2:=rc List.length e;rw[dC] at e2;have e3:l=[]:=t8 e2;subst e3;simp[oz] at h
 ·simp
def tC:fi []:=⟨ce _,λb hb=>by cases hb⟩
def HV(c:List aV)(ps:List aq)(e:bB)(hps:∀p∈ps,fq p)(he:lN e):(∃p,aX c ps e=(df ps p,0)/\fq p)\/∃k,aX c ps e=([],k)/\k≠0:=by
 have hget:∀name p,pA ps (nQ 0 [] ps) name=some p->fq p:=by
  intro name p h;unfold pA at h;split at h
  ·exact hps p (al h)
  ·cases h
 unfold aX;split
 ·split
  ·split
   ·unfold BK;split
    ·exact .inr ⟨3,rfl,by decide⟩
    ·split
     ·exact .inr ⟨4,rfl,by decide⟩
     ·split
      ·exact .inr ⟨7,rfl,by decide⟩
      ·exact .inl ⟨_,rfl,⟨he.part,he.kind,tC,tC,by simp[rA],λx hx=>by simp[rA] at hx⟩⟩
   ·split
    ·rename_i p h hp hh;have hpo:=hget _ _ hp;split
     ·exact .inr ⟨5,rfl,by decide⟩
     ·unfold jY;simp only
      repeat' split
      all_goals first
       | exact .inr ⟨_,rfl,by decide⟩
       | exact .inl ⟨p,rfl,hpo⟩
       | exact .inl ⟨_,rfl,⟨hpo.name,hpo.kind,he.br,he.slot,hpo.len,hpo.prop⟩⟩
       | exact .inl ⟨_,rfl,⟨hpo.name,hpo.kind,tC,tC,hpo.len,hpo.prop⟩⟩
       | exact .inl ⟨_,rfl,⟨hpo.name,hpo.kind,hpo.br,hpo.slot,hpo.len,hpo.prop⟩⟩
       | (
        refine .inl ⟨_,rfl,⟨hpo.name,hpo.kind,hpo.br,hpo.slot,?_,?_⟩⟩
        ·rename_i hle;show(nG p.props ⟨e.key,e.value⟩).length<=_;omega
        ·intro x hx
         rcases F7 hx with rfl | hx
         ·exact⟨he.key,he.value⟩
         ·exact hpo.prop x hx)
    ·exact .inr ⟨2,rfl,by decide⟩
  ·exact .inr ⟨1,rfl,by decide⟩
 ·exact .inr ⟨1,rfl,by decide⟩
variable{ps:List aq}
def oy{c:List aV}{e:bB}(hps:∀p∈ps,fq p)(he:lN e):(∀p∈(aX c ps e).1,fq p)/\(aX c ps e).1.length<=ps.length+1/\((aX c ps e).2=0->(aX c ps e).1≠[])/\((aX c ps e).2≠0->(aX c ps e).1=[]):=by
 rcases HV c ps e hps he with⟨p,h,hp⟩ | ⟨k,h,hk⟩
 ·rw[h];refine⟨λq hq=>?_,F5 _ _,λ_=>Iq,λh=>un rfl h⟩
  rcases F6 hq with rfl | hq
  ·exact hp
  ·exact hps q hq
 ·rw[h];exact⟨λq hq=>by simp at hq,ce _,λh=>un h hk,λ_=>rfl⟩
def xF{dmg:bC}{e:bB}(hps:∀p∈ps,fq p):(∀p∈Hf dmg ps e,fq p)/\(Hf dmg ps e).length=ps.length:=by
 refine⟨λp hp=>?_,af _⟩;obtain⟨q,hq,rfl⟩:=mem_map.1 hp;unfold Aq;split
 ·exact(hps q hq).Uc _ _
 ·exact hps q hq
def wb(e:bB)(day:Int):PC aa 46 [.ag (ar e),.ip [ab day]] (·=ai (fe day e)):=by
 refine pB 8 Tryz.func46 ?_;exact(aD @ar.eq_1)<|(zV)<|zo [.tmp 3]
def gG(B:Nat)(l:List (List Nat)):mC B (eY l)=true:=by
 unfold eY;split
 ·rfl
 ·rw[mC];exact bO (aE (λ_=>rfl) l)
def ft(B e n:Nat):dD (B+1) (cr 0 e n)=true:=by
 unfold cr;split
 ·exact gh rfl
 ·rw[dD];exact wl (Nat.succ_pos B)
def Ny:∀(n:Nat) (r:jy) (ls:List (List Nat)),(dP n r ls).length<=r.length
 | 0,_,_=>ce _
 | n+1,r,ls=>by
  rw[dP];split
  ·exact ce _
  ·rw[li,af];have h1:=Ny n (r.filter λe=>!ls.contains e.2) ((r.filter λe=>ls.contains e.2).map (·.1));have h2:=yW (λe:List Nat×List Nat=>ls.contains e.2) r;omega
def mK(ps:List aq)(part:List Nat):(fP ps part).length<=ps.length:=by
 unfold fP;split
 ·have h1:(ee (dP (ps.length+2) (On ps part) [part])).length=(dP (ps.length+2) (On ps part) [part]).length:=(r9 _).length_eq;rw[h1];refine b0 (Ny _ _ _) (b0 x9 (b0 (b8 _ _) ?_));have:=Cr ps 0 [];simpa using this
 ·exact ce _
def Dn(l:List bB)(d:bB->Bool):(eL (dV d l)).length<=l.length:=by
 rw[eL,yv];exact bV _ _
def xC{l:List bB}{d:bB->Bool}{e:bB}(h:e∈eL (dV d l)):e∈l:=(mem_filter.1 ((u9 _ _).mem_iff.1 h)).1
abbrev eT(e:bB):List SV:=[ah e.part,ah e.kind,ah e.br,ah e.slot,ah e.key,ah e.value,ab e.u1,ab e.u2,ab e.u3,ab e.u4,ab e.u5,ab e.u6]
abbrev eA(e:bB):List SV:=[ab e.op,ab e.day,ah e.part,ah e.kind,ah e.br,ah e.slot,ah e.key,ah e.value,ab e.u1,ab e.u2,ab e.u3,ab e.u4,ab e.u5,ab e.u6]
abbrev wE(c:List aV)(dmg:bC)(e:bB)(ev:List bB)(k:Nat):Fm:=[(3,.ip (an 3 c ao::aF dmg)),(6,.ptr 0 0),(10,.ptr 1 0),(12,.ip (eA e)),(34,an 14 ev ar),(35,ab ev.length),(36,ab k)]
abbrev wF(c:List aV)(dmg:bC)(e:bB)(ev:List bB)(k:Nat)(I:List (List Nat))(d:Int×Int)(n k2:Nat):Fm:=[(3,.ip (an 3 c ao::aF dmg)),(6,.ptr 0 0),(10,.ptr 1 0),(12,.ip (eA e)),(15,an 1 I (aH ah)),(16,.ip [ab d.1,ab d.2]),(34,an 14 ev ar),(35,ab ev.length),(36,ab k),(77,ab n),(78,ab k2)]
def Jd(c:List aV)(dmg:bC)(l:List bB)(day:Int)(hc:mz c)(hf:gD dmg)(hlen:l.length<20)(hl:∀e∈l,lN e):PC aa 14 [.ag (an 3 c ao::aF dmg),an 14 l ar,ab day] (·=Tn (runN c dmg l day)):=by
 have hfl:(aF dmg).length=3:=eW dmg;have hft:(aF dmg).take 3=aF dmg:=a8 (by rw[hfl];exact ay _);have hfk:=λo:Nat=>bQ (o:=o) (aT dmg);have hfn:=λo:Nat=>cg (o:=o) (aT dmg);refine pB 101 Tryz.func14 ?_;refine(aD (bu hfk hfn)) ?_;refine zZ [(1,an 14 l ar),(3,.ip (an 3 c ao::aF dmg)),(5,.ptr 1 0),(6,.ptr 2 0),(7,ab 0),(8,ab 0)] 0 rfl ⟨.inl rfl,.inr (.ptr rfl (cu.refl (aT dmg)) (ce _)),zj⟩ ?_
 (try change aG _ _ _ _ _)
 refine(zC)<|(zK (nM c hc)) ?_
 cases h1:qk c
 ·refine(zR)<|(cI)<|(zE) ?_;exact zO [.cell 6 46,.tmp 7,.tmp 8] (r:=.cx [.ag [.sl 0 14 []],ab (-1),ab 1]) (hw:=zv) (hq:=by (try simp only[eC,bJ]);first | done | (rw[show runN c dmg l day=([],-1,1) by simp[runN,h1]];rfl))
 refine(Mf (bu hfl hft))<|(zK (qR dmg hf) (hwk:=cu.cons (.ag (cu.refl (aT dmg))) .nil)) ?_
 cases h2:Proofs.iC dmg
 ·refine(zR)<|(cI)<|(zE) ?_;exact zO [.cell 6 46,.tmp 7,.tmp 8] (r:=.cx [.ag [.sl 0 14 []],ab (-1),ab 1]) (hw:=zv) (hq:=by (try simp only[eC,bJ]);first | done | (rw[show runN c dmg l day=([],-1,1) by simp[runN,h1,h2]];rfl))
 refine(zR)<|(zN) ?_
 have hN:runN c dmg l day=oS c dmg 0 (eL (dV (fe day) l)) []:=by rw[runN,h1,h2];rfl
 refine zA [(1,an 14 l ar),(3,.ip (an 3 c ao::aF dmg)),(5,.ptr 1 0),(6,.ptr 2 0)] [.gone,.cells [ab day],.cells [.a (.slice none 0 0 (some 0))]] zH ?_;clear h1 h2;obtain⟨kp,hkp⟩:∃kp,kp=dV (fe day) l:=⟨_,rfl⟩
 have hkl:kp.length<=l.length:=by rw[hkp];exact Fo _ _
 rw[<-hkp] at hN
 (repeat refine aG.seq ?_)
 refine aG.mono (Q:=λe st=>e=.normal/\Fg st ⟨[(3,.ip (an 3 c ao::aF dmg)),(6,.ptr 0 0),(9,an 14 kp ar)],101,[.cells [.a (.slice none 0 0 (some 0))]],[]⟩) ?_ ?_
 ·by_cases hne:l=[]
  ·subst hne;have hk0:kp=[]:=hkp;subst hk0;refine(zC) ?_;refine zS [] (bu hfk hfn) sb ?_;refine(zQ) ?_;refine zS [1] (bu hfk hfn) (z7 46 [ab day] rfl (fe day) (λx=>wb x day)) ?_;refine(zR) ?_;refine⟨rfl,?_⟩;refine Fg.trans (b:=⟨[(3,.ip (an 3 c ao::aF dmg)),(6,.ptr 2 0),(9,an 14 [] ar)],101,[.gone,.gone,.cells [.a (.slice none 0 0 (some 0))]],[]⟩) ?_ (Fg.rn (f':=[(3,.ip (an 3 c ao::aF dmg)),(6,.ptr 0 0),(9,an 14 [] ar)]) (n:=101) (S':=[.cells [.a (.slice none 0 0 (some 0))]]) [2] g9 rfl (by (simp only[sA,gn,bI,an,bp (aT dmg)])<;>(repeat' apply a4)<;>first | trivial | exact .inl rfl | exact .inr rfl | exact .inr trivial | exact .inl trivial) (by (simp only[cL,gn,bI,an,bp (aT dmg)])<;>(repeat' apply a4)<;>first | rfl | trivial));exact Fg.trans (Fg.wk (f':=[(3,.ip (an 3 c ao::aF dmg)),(6,.ptr 2 0),(9,an 14 [] ar)]) ⟨.inl rfl,.inl rfl,.inr (.SI 14),trivial⟩) zH
  ·have hne0:¬l.length=0:=λh=>hne (t8 h);have hrq:∀(r:Nat->Nat) (q:List bB),mP r (q.flatMap ar)=q.flatMap ar:=λr q=>bp (aE bU q);have hbq:∀(B:Nat) (q:List bB),iI B (q.flatMap ar)=true:=λB q=>bO (aE bU q);have hkq:=bx bU;have hdel:=z8 46 [ab day] rfl (fe day) (λx=>wb x day) l i4;rw[<-hkp] at hdel;obtain⟨q,hq⟩:∃q,q=kp++dd (l.length-kp.length) bB.zero:=⟨_,rfl⟩
   have hqt:(q.flatMap ar).take (kp.length*14)=kp.flatMap ar:=by
    rw[gN cK,hq,bd (ay _),a8 (ay _)]
   have hql:(q.flatMap ar).length=l.length*14:=by rw[aU cK,hq,li,List.length_replicate];congr 1;omega
   rw[<-hq] at hdel;refine(zC) ?_;refine zS [] (lk hfk hfn hrq hbq hkq) (sd l i4 hne) ?_;refine(zQ) ?_;refine zS [4,1] (lk hfk hfn hrq hbq hkq) hdel ?_;refine(zR) ?_;refine⟨rfl,?_⟩;refine Fg.trans (b:=⟨[(3,.ip (an 3 c ao::aF dmg)),(6,.ptr 2 0),(9,an 14 kp ar)],101,[.gone,.gone,.cells [.a (.slice none 0 0 (some 0))]],[]⟩) ?_ (Fg.rn (f':=[(3,.ip (an 3 c ao::aF dmg)),(6,.ptr 0 0),(9,an 14 kp ar)]) (n:=101) (S':=[.cells [.a (.slice none 0 0 (some 0))]]) [2] g9 rfl (by (simp only[sA,gn,bI,an,bp (aT dmg)])<;>(repeat' apply a4)<;>first | trivial | exact .inl rfl | exact .inr rfl | exact .inr trivial | exact .inl trivial) (by (simp only[cL,gn,bI,an,bp (aT dmg)])<;>(repeat' apply a4)<;>first | rfl | trivial));exact Fg.trans (Fg.freeze (f':=[(3,.ip (an 3 c ao::aF dmg)),(6,.ptr 2 0),(9,an 14 kp ar)]) 4 rfl gt ⟨.inl rfl,.inl rfl,.inr (.buf rfl (by rw[hqt];exact cu.refl (aE bU _)) (by rw[hql];exact Nat.mul_le_mul_right 14 hkl)),trivial⟩) zH
 rintro e st ⟨rfl,hfg⟩;refine aG.fg hfg ?_;clear hfg
 (try change aG _ _ _ _ _)
 have hkm:∀e∈eL kp,lN e:=λe he=>hl e (by rw[hkp] at he;exact xC he)
 have hsl:(eL kp).length<20:=by have:=Dn l (fe day);rw[<-hkp] at this;omega
 refine(jr)<|(zK (wj kp i4) (hfl:=.inr (cu.refl (by rw[bR,an,mq,bR];rfl)))) ?_
 generalize eL kp=ev at hN hkm hsl;refine(zR) ?_
 have hlen1:ev.length<=1000000:=by omega
 refine zA [(3,.ip (an 3 c ao::aF dmg)),(6,.ptr 0 0),(10,.ptr 1 0),(34,an 14 ev ar),(35,ab ev.length),(36,ab 0)] [.cells [.a (.slice none 0 0 (some 0))],.cells [.a (.slice none 0 0 (some 0))]] zH ?_;refine aG.fg (Fg.TD (S':=[.cells [.a (.slice none 0 0 (some 0))],.cells [an 14 ([]:List aq) ae]]) ⟨.inr ⟨by decide,.inl rfl⟩,.inr ⟨by decide,.inr ⟨_,_,rfl,rfl,.cons (.nil _) .nil⟩⟩,trivial⟩) ?_
 (try change aG _ _ _ _ _)
 refine(zs) ?_;refine Ho ev (λk (ps:List aq)=>(oS c dmg 0 ev []=oS c dmg k (ev.drop k) ps/\(∀p∈ps,fq p)/\ps.length<=k)) (λk ps=>[(3,.ip (an 3 c ao::aF dmg)),(6,.ptr 0 0),(10,.ptr 1 0),(34,an 14 ev ar),(35,ab ev.length),(36,ab k)]) (λk ps=>[.cells [.a (.slice none 0 0 (some 0))],.cells [an 14 ps ae]]) ([]) zH (by exact⟨rfl,(λp hp=>by cases hp),ay _⟩) ?_;intro k ps hk hall;refine zT ev k ?_ ?_;rintro rfl;rotate_left;intro e hx hlt;rotate_left
 ·refine(gg) ?_;obtain⟨hr,_,_⟩:=hall;rw[cl] at hr
  refine(zV)<|(zE) ?_;exact zO [.cell 6 46,.tmp 7,.tmp 8] (r:=.cx [.ag [an 14 ps ae],ab (-1),ab 0]) (hw:=zv) (hq:=by (try simp only[eC,bJ]);first | done | (rw[hN,hr];rfl))
 obtain⟨hr,hps,hpl⟩:=hall;rw[eV hx] at hr;have heo:=hkm e (al hx);have hap:=zJ c ps e hc i4 hps heo;obtain⟨q1,q2,q3,q4⟩:=oy (c:=c) hps heo
 have hr2:oS c dmg k (e::ev.drop (k+1)) ps=if (aX c ps e).2=0 then (if e.op=4 then oS c dmg (k+1) (ev.drop (k+1)) (Hf dmg (aX c ps e).1 e) else oS c dmg (k+1) (ev.drop (k+1)) (aX c ps e).1) else ([],(k:Int),(aX c ps e).2):=rfl
 rw[hr2] at hr;clear hr2;obtain⟨nx,er,hne⟩:∃nx er,aX c ps e=(nx,er):=⟨_,_,rfl⟩;rw[hne] at hap q1 q2 q3 q4 hr;simp only at q1 q2 q3 q4 hr;rw[dw] at hap
 refine(gA)<|(aD (cJ hlt (aQ (e:=14) (enc:=ar) gc hx) @dw)) ?_;refine zZ [(3,.ip (an 3 c ao::aF dmg)),(6,.ptr 0 0),(10,.ptr 1 0),(11,ab k),(12,.ip (eA e)),(34,an 14 ev ar),(35,ab ev.length),(36,ab k)] 2 rfl (gw @an.eq_1) ?_
 (try change aG _ _ _ _ _)
 refine(zC)<|(zK hap (hfl:=.inr zr))<|(cP @j8.eq_1) ?_
 by_cases herr:er=0;rotate_left
 ·rw[v6 herr] at hr;have hnil:=q4 herr
  refine(aD (wd herr))<|(cI)<|(zE) ?_;exact zO [.cell 6 46,.tmp 7,.tmp 8] (r:=.cx [.ag [.sl 0 14 []],ab k,ab er]) (hw:=zv) (hq:=by (try simp only[eC,bJ]);first | done | (rw[hN,hr];rfl))
 rw[ut herr] at hr;subst herr
 refine(El)<|(zV) ?_
 by_cases hop:e.op=4;rotate_left
 ·rw[v6 hop] at hr
  refine(aD (wd hop))<|(zY) ?_;refine aG.exit ?_
  (try change aG _ _ _ _ _)
  refine(aD (zi hlt hlen1)) ?_;refine w8 hlt (nx) zH (⟨hr,q1,by omega⟩)
 rw[ut hop] at hr
 refine(aD (wl hop))<|(zN)<|zA (wE c dmg e ev k) [.cells [.a (.slice none 0 0 (some 0))],.cells [an 14 nx ae]] zH ?_
 obtain⟨ins,hins⟩:∃ins,ins=fP nx e.part:=⟨_,rfl⟩
 have hinl:ins.length<=100000:=by rw[hins];exact b0 (mK nx e.part) i4
 (repeat refine aG.seq ?_)
 refine aG.zu 7 12 (λL=>⟨(58,vo L 0 (.ag [an 14 nx ae]))::(59,vo L 1 (.ip (eT e)))::(60,vo L 2 (ah e.part))::(61,vo L 3 (cr 2 1 ins.length))::(62,vo L 4 (.ip (eT e)))::(63,vo L 5 (ah e.part))::(64,vo L 6 (.buf 3 1 1 (some 1)))::wE c dmg e ev k,101,[.cells [.a (.slice none 0 0 (some 0))],.cells [an 14 nx ae],wo L 3 (eY ins),wo L 6 (.cells [ah e.part])],[]⟩) rfl zW ii g9 zW (cf (bu @xG @Eh)) (λL=>rfl) ?_ ?_
 ·rintro L i o him hC hr
  rcases i with _ | _ | _ | _ | _ | _ | _ | i
  rotate_right
  ·exact un him i4
  ·cases hr.ju;refine(zR) ?_;exact(cf (bu @bz @fp))
  ·cases hr.ju;refine(zR) ?_;exact(cf (bu @bz @fp))
  ·cases hr.ju;have d1:L 1:=hr.dep ⟨1,.data⟩ ge rfl;refine(cP (iM d1)) ?_;exact(cf (cJ @bz @fp (iM d1)))
  ·cases hr.ju;have d0:L 0:=hr.dep ⟨0,.data⟩ ge rfl;have d2:L 2:=hr.dep ⟨2,.data⟩ ge rfl;have hn3:¬L 3:=hr.new;have hin:=qN nx e.part i4;rw[<-hins] at hin;refine aL.sk [] ii rfl rfl ii rfl (Cg (bu (iM d0) (iM d2))) (hin) (by simp only[gn,bI,an,↓reduceIte,ac,aj,bh,ap,ad,am,cG d0,cG d2,↓lY,db,hfk,hfn,cC (show 2≠4 by decide),fw,dJ,eM,ft,gG,gf hn3];first | done | rfl) rfl g9 (by simp only[CR,gn,bI,an,cG d0,cG d2,↓lY,db,hfk,hfn,cC (show 2≠4 by decide),fw,dJ,eM,ft,gG,gf hn3]<;>(repeat' apply a4)<;>first | trivial | rfl | (intro hh;cases hh)) (by simp only[B5,gn,bI,an,aj,am,decide_true,cG d0,cG d2,↓lY,db,hfk,hfn,cC (show 2≠4 by decide),fw,dJ,eM,ft,gG,gf hn3];first | done | rfl) (by simp only[B5,gn,bI,an,aj,am,decide_true,cG d0,cG d2,↓lY,db,hfk,hfn,cC (show 2≠4 by decide),fw,dJ,eM,ft,gG,gf hn3];first | done | rfl) (by simp only[gn,bI,an,↓reduceIte,ac,aj,bh,ap,ad,am,cG d0,cG d2,↓lY,db,hfk,hfn,cC (show 2≠4 by decide),fw,dJ,eM,ft,gG,gf hn3];first | done | rfl) (by simp only[gn,bI,an,↓reduceIte,ac,aj,bh,ap,ad,am,cG d0,cG d2,↓lY,db,hfk,hfn,cC (show 2≠4 by decide),fw,dJ,eM,ft,gG,gf hn3,bX,cA,bF,aM,cL];first | done | rfl) (by simp only[gn,bI,an,↓reduceIte,ac,aj,bh,ap,ad,am,cG d0,cG d2,↓lY,db,hfk,hfn,cC (show 2≠4 by decide),fw,dJ,eM,ft,gG,gf hn3,bX,cA,bF,aM,cL];first | done | rfl) ?_;refine .nil ?_;exact((Fg.rn (f':=(58,(.ag [an 14 nx ae]))::(59,vo L 1 (.ip (eT e)))::(60,(ah e.part))::(61,(cr 2 1 ins.length))::(62,vo L 4 (.ip (eT e)))::(63,vo L 5 (ah e.part))::(64,vo L 6 (.buf 3 1 1 (some 1)))::wE c dmg e ev k) (n:=101) (S':=[.cells [.a (.slice none 0 0 (some 0))],.cells [an 14 nx ae],eY ins,wo L 6 (.cells [ah e.part])]) [0,1,4,3] g9 rfl (by (simp only[sA,gn,bI,an,yZ,BY,eM,dJ,bp (aT dmg),db,cC (show 2≠4 by decide)])<;>(repeat' apply a4)<;>first | trivial | exact .inl rfl | exact .inr rfl | exact .inr trivial | exact .inl trivial) (by (simp only[cL,gn,bI,an,yZ,BY,eM,dJ,bp (aT dmg),db,cC (show 2≠4 by decide)])<;>(repeat' apply a4)<;>first | rfl | trivial))).trans (cf (gm @bz @fp (iM d0) (iM d2)))
  ·cases hr.ju;refine(zR) ?_;exact(cf (bu @bz @fp))
  ·cases hr.ju;have d4:L 4:=hr.dep ⟨4,.data⟩ ge rfl;refine(cP (iM d4)) ?_;exact(cf (cJ @bz @fp (iM d4)))
  ·cases hr.ju;have d5:L 5:=hr.dep ⟨5,.data⟩ ge rfl;have hn6:¬L 6:=hr.new;refine aL.r0 ii (by simp only[cL,bI,an,aC,m7,m6,↓reduceIte,ac,aj,ap,ad,am,ak,au,bl,cG d5,↓lY,db,hfk,hfn,cC (show 2≠4 by decide),fw,gf hn6];first | done | rfl) ?_;exact((Fg.rn (f':=(58,vo L 0 (.ag [an 14 nx ae]))::(59,vo L 1 (.ip (eT e)))::(60,vo L 2 (ah e.part))::(61,vo L 3 (cr 2 1 ins.length))::(62,vo L 4 (.ip (eT e)))::(63,(ah e.part))::(64,(.buf 3 1 1 (some 1)))::wE c dmg e ev k) (n:=101) (S':=[.cells [.a (.slice none 0 0 (some 0))],.cells [an 14 nx ae],wo L 3 (eY ins),.cells [ah e.part]]) [0,1,2,4] g9 rfl (by (simp only[sA,gn,bI,an,yZ,BY,eM,dJ,bp (aT dmg),db,cC (show 2≠4 by decide)])<;>(repeat' apply a4)<;>first | trivial | exact .inl rfl | exact .inr rfl | exact .inr trivial | exact .inl trivial) (by (simp only[cL,gn,bI,an,yZ,BY,eM,dJ,bp (aT dmg),db,cC (show 2≠4 by decide)])<;>(repeat' apply a4)<;>first | rfl | trivial))).trans (cf (cJ @bz @fp (iM d5)))
 change aL _ _ _ _ _ _;refine aL.mono (K:=λx=>Fg x ⟨(65,.buf 2 (ins.length+1) 1 none)::wE c dmg e ev k,101,[.cells [.a (.slice none 0 0 (some 0))],.cells [an 14 nx ae],.cells ((ins++[e.part]).flatMap (aH ah))],[]⟩) ?_ λx hx=>?_
 ·have v7:∀i,i<7->∀v:SV,vo (λj=>j<7) i v=v:=λi h v=>cG h;have w7:∀i,i<7->∀v:SO,wo (λj=>j<7) i v=v:=λi h v=>oh h;have a3:=v7 3 g9;have a6:=v7 6 g9;have b3:=w7 3 g9;have b6:=w7 6 g9;have happ:=mg (enc:=aH ah) (e:=1) gc (λ_=>rfl) 2 ins e.part;rw[show aH ah e.part=[ah e.part] from rfl,bk] at happ;have hcl:=aU (enc:=aH ah) (e:=1) gc ins;by_cases hi0:ins=[]
  ·subst hi0;refine(cP (MX a3 a6 b3 b6 @lD @i5.{0} @gU hfk hfn @db)) ?_;exact((Fg.rn (f':=(65,.buf 2 1 1 none)::wE c dmg e ev k) (n:=101) (S':=[.cells [.a (.slice none 0 0 (some 0))],.cells [an 14 nx ae],.cells [ah e.part]]) [0,1,4] g9 rfl (by (simp only[sA,gn,bI,an,bp (aT dmg)])<;>(repeat' apply a4)<;>first | trivial | exact .inl rfl | exact .inr rfl | exact .inr trivial | exact .inl trivial) (by (simp only[cL,gn,bI,an,bp (aT dmg)])<;>(repeat' apply a4)<;>first | rfl | trivial))).trans (cf (lk @aH.eq_1 @nil_append.{0} @flatMap_cons.{0,0} @flatMap_nil.{0,0} @i5.{0}))
  ·have hil:¬ins.length=0:=λh=>hi0 (t8 h);refine(cP (bu (Mj a3 a6 b3 b6 (eo (o:=2) (e:=1) hil) (fU hi0) hfk hfn @db) (uP (λo:Nat=>bx (enc:=aH ah) gc o ins) hcl @bk @ay (show ins.length<=1000000 by omega) happ))) ?_;exact zH
 change aL _ _ _ _ _ _;refine aL.fg hx ?_;refine(zR) ?_;change aG _ _ _ _ _;refine zA ((15,.buf 2 (ins.length+1) 1 none)::wE c dmg e ev k) [.cells [.a (.slice none 0 0 (some 0))],.cells [an 14 nx ae],.cells ((ins++[e.part]).flatMap (aH ah))] zH ?_;obtain⟨I,hI⟩:∃I,I=ins++[e.part]:=⟨_,rfl⟩
 have hIl:I.length=ins.length+1:=by rw[hI,li];rfl
 rw[<-hI];refine zZ [(3,.ip (an 3 c ao::aF dmg)),(6,.ptr 0 0),(10,.ptr 1 0),(12,.ip (eA e)),(15,an 1 I (aH ah)),(34,an 14 ev ar),(35,ab ev.length),(36,ab k)] 2 rfl ⟨.inl rfl,.inl rfl,.inl rfl,.inl rfl,.inr (by rw[pP 1 I (aH ah),hIl];exact .buf rfl (by rw[<-hIl,ek (enc:=aH ah) (e:=1) gc];exact cu.refl (aE (λ_=>rfl) _)) (by rw[aU (enc:=aH ah) (e:=1) gc,hIl];exact ay _)),zj⟩ ?_
 (try change aG _ _ _ _ _)
 have hd:=Gt dmg (qT e) hf;simp only[eg,qT] at hd;obtain⟨d,hdd⟩:∃d,d=qZ dmg (qT e):=⟨_,rfl⟩;have hdd2:qZ dmg ⟨e.u1,e.u2,e.u3,e.u4,e.u5,e.u6⟩=d:=hdd.symm;rw[hdd2] at hd
 refine(e9 (bu hfl hft))<|(zK hd (hwk:=cu.cons (.ag (cu.refl (aT dmg))) (.cons (.ag zr) .nil)))<|(cP (gm @oi.eq_1 @kW.eq_1 hfk hfn)) ?_
 have hnn:=q3 rfl;have hn0:0<nx.length:=co λh=>hnn (t8 h);have hrq:∀(r:Nat->Nat) (q:List aq),mP r (q.flatMap ae)=q.flatMap ae:=λr q=>bp (aE dx q);have hbq:∀(B:Nat) (q:List aq),iI B (q.flatMap ae)=true:=λB q=>bO (aE dx q);have hkq:=bx (enc:=ae) dx
 refine(zC) ?_;refine zS [] (lk hfk hfn hrq hbq hkq) (pZ nx i4 hnn) ?_;refine(zR)<|(zV)<|zA [(3,.ip (an 3 c ao::aF dmg)),(6,.ptr 0 0),(10,.ptr 1 0),(12,.ip (eA e)),(15,an 1 I (aH ah)),(16,.ptr 3 0),(34,an 14 ev ar),(35,ab ev.length),(36,ab k),(76,.buf 5 nx.length 14 none),(77,ab nx.length),(78,ab 0)] [.cells [.a (.slice none 0 0 (some 0))],.cells [.buf 5 nx.length 14 none],.gone,.cells [ab d.1,ab d.2],.gone,.cells (nx.flatMap ae)] zH ?_;refine zZ (wF c dmg e ev k I d nx.length 0) 3 rfl (gw @an.eq_1) ?_;refine zA (wF c dmg e ev k I d nx.length 0) [.cells [.a (.slice none 0 0 (some 0))],.cells [.buf 2 nx.length 14 none],.cells (nx.flatMap ae)] (Fg.rn [0,1,5] g9 rfl (by (simp only[sA,gn,bI,an,hrq,bp (aT dmg)])<;>(repeat' apply a4)<;>first | trivial | exact .inl rfl | exact .inr rfl | exact .inr trivial | exact .inl trivial) (by (simp only[cL,gn,bI,an,hrq,bp (aT dmg)])<;>(repeat' apply a4)<;>first | rfl | trivial)) ?_
 have hIu:Hf dmg nx e=nx.map (Aq dmg I e):=by unfold Hf;rw[hI,hins]
 have hnl:nx.length<=1000000:=by omega
 refine(zs) ?_;refine zL nx (λk2=>True) (λk2=>(wF c dmg e ev k I d nx.length k2)) (λk2=>[.cells [.a (.slice none 0 0 (some 0))],.cells [.buf 2 nx.length 14 none],.cells ((((nx.take k2).map (Aq dmg I e))++nx.drop k2).flatMap ae)]) (cf (gm @List.take_zero.{0} @map_nil.{0,0} @drop_zero.{0} @nil_append.{0})) zp ?_;intro k2 hk2 hall2;refine zT nx k2 ?_ ?_;rintro rfl;rotate_left;intro p hx2 hlt2;rotate_left
 ·refine(gg) ?_;rw[bb,cl,a9,<-hIu];obtain⟨r1,r2⟩:=xF (dmg:=dmg) (e:=e) q1;generalize Hf dmg nx e=ux at hr r1 r2;refine aG.fg (Fg.lS (f':=[(3,.ip (an 3 c ao::aF dmg)),(6,.ptr 0 0),(10,.ptr 1 0),(12,.ip (eA e)),(15,an 1 I (aH ah)),(34,an 14 ev ar),(35,ab ev.length),(36,ab k)]) (S':=[.cells [.a (.slice none 0 0 (some 0))],.cells [an 14 ux ae]]) 2 rfl gt (gw @an.eq_1) ⟨.inr ⟨by decide,.inl rfl⟩,.inr ⟨by decide,.inr ⟨_,_,rfl,rfl,.cons (by rw[pP 14 ux ae,r2];exact .buf rfl (by rw[<-r2,ek (enc:=ae) (e:=14) gc];exact cu.refl (aE dx _)) (by rw[aU (enc:=ae) (e:=14) gc,r2];exact ay _)) .nil⟩⟩,trivial⟩) ?_
  (try change aG _ _ _ _ _)
  refine(aD (zi hlt hlen1)) ?_;refine w8 hlt (ux) zH (⟨hr,r1,by omega⟩)
 have hdrop:=eV hx2;obtain⟨q,hq⟩:∃q,q=(nx.take k2).map (Aq dmg I e)++nx.drop k2:=⟨_,rfl⟩
 have hqx:q[k2]?=some p:=by
  rw[hq,List.getElem?_append_right (by rw[af,a7];omega),af,a7,cn i4,ck,hdrop];rfl
 have hql:q.length=nx.length:=by rw[hq,li,af,a7,e5];omega
 have hqc:(q.flatMap ae).length=nx.length*14:=by rw[aU (enc:=ae) (e:=14) gc,hql]
 have hnext:((nx.take (k2+1)).map (Aq dmg I e)++nx.drop (k2+1))=q.set k2 (Aq dmg I e p):=by
  rw[hq,cM hx2,ct,hdrop,List.set_append_right _ _ (by rw[af,a7];omega),af,a7,cn i4,ck,List.set_cons_zero,ch];rfl
 have hcell:(q.flatMap ae)[k2*14]?=some (ah p.name):=by
  have h1:((q.flatMap ae).drop (k2*14)).take 14=ae p:=aQ (e:=14) (enc:=ae) gc hqx;have h2:=rc (λl=>l[0]?) h1;simp only[c6,c5,ba] at h2;exact h2
 rw[<-hq]
 refine(gA)<|(zV)<|(e9 (cJ hlt2 @ba hcell))<|(zK (iA I p.name i4) (hwk:=cu.cons (.sl _ _ _) (.cons (.a _) .nil))) ?_
 cases hcn:I.contains p.name
 ·have hup:Aq dmg I e p=p:=by unfold Aq;rw[hcn];rfl
  rw[hup] at hnext
  have hset:q.set k2 p=q:=by
   apply List.ext_getElem?;intro j;by_cases hj:k2=j
   ·subst hj;rw[List.getElem?_set_self (bq hqx),hqx]
   ·rw[List.getElem?_set_ne hj]
  rw[hset] at hnext
  refine(zR)<|(zN)<|(aD (zi hlt2 hnl)) ?_;refine zX hlt2 (cf hnext) trivial
 refine(zR)<|(zY) ?_
 have hup:Aq dmg I e p=xc (qT e) d p:=by unfold Aq;rw[hcn,<-hdd];rfl
 obtain⟨A,hA⟩:∃A,A=(q.take k2).flatMap ae++[ah p.name,ah p.kind,ah p.br,ah p.slot,ab p.made,ab p.since,ai p.cN,an 2 p.props aJ]:=⟨_,rfl⟩;obtain⟨B,hB⟩:∃B,B=(q.drop (k2+1)).flatMap ae:=⟨_,rfl⟩
 have hkl:k2<q.length:=by omega
 have hAl:A.length=k2*14+8:=by rw[hA,li,aU (enc:=ae) (e:=14) gc,a7,cn i4];rfl
 have hqs:q.take k2++(p::q.drop (k2+1))=q:=by rw[<-eV hqx,List.take_append_drop]
 have hsplit:q.flatMap ae=A++(BG p.l1 p.l2 p.l3 p.l4 p.l5 p.l6++B):=by
  rw[hA,hB,ch]
  conv=>lhs;rw[<-hqs,bi,flatMap_cons]
  rfl
 have hset:(q.set k2 (xc (qT e) d p)).flatMap ae=A++(NI p.l1 p.l2 p.l3 p.l4 p.l5 p.l6 (qT e) d.1 d.2++B):=by
  rw[hA,hB,ch,b9,ut hkl,bi,flatMap_cons];rfl
 rw[hup] at hnext;have hla:=DW A B p.l1 p.l2 p.l3 p.l4 p.l5 p.l6 (qT e) d.1 d.2 (by rw[<-hsplit];exact aE dx q);rw[<-hsplit,<-hset,hAl] at hla;simp only[eg,qT,kW] at hla;refine aG.zu 8 9 (λL=>⟨(89,vo L 0 (.ptr 1 0))::(90,vo L 1 (.buf 2 nx.length 14 none))::(91,vo L 2 (ab k2))::(92,vo L 3 (.ptr 2 (k2*14)))::(93,vo L 4 (.ptr 2 (k2*14+8)))::(94,vo L 5 (.ip [ab e.u1,ab e.u2,ab e.u3,ab e.u4,ab e.u5,ab e.u6]))::(95,vo L 6 (.ag [ab e.u1,ab e.u2,ab e.u3,ab e.u4,ab e.u5,ab e.u6]))::(96,vo L 7 (.ag [ab d.1,ab d.2]))::(17,ab k2)::wF c dmg e ev k I d nx.length k2,101,[.cells [.a (.slice none 0 0 (some 0))],.cells [.buf 2 nx.length 14 none],.cells (q.flatMap ae)],[]⟩) rfl zW ii g9 zW (cf @xG) (λL=>rfl) ?_ ?_
 ·rintro L i o him hC hr
  rcases i with _ | _ | _ | _ | _ | _ | _ | _ | i
  rotate_right
  ·exact un him i4
  ·cases hr.ju;refine(zR) ?_;exact(cf @bz)
  ·cases hr.ju;have d0:L 0:=hr.dep ⟨0,.data⟩ ge rfl;refine(cP (iM d0)) ?_;exact(cf (bu @bz (iM d0)))
  ·cases hr.ju;refine(zR) ?_;exact(cf @bz)
  ·cases hr.ju;have d1:L 1:=hr.dep ⟨1,.data⟩ ge rfl;have d2:L 2:=hr.dep ⟨2,.data⟩ ge rfl;refine(cP (cJ (iM d1) (iM d2) hlt2)) ?_;exact(cf (cJ @bz (iM d1) (iM d2)))
  ·cases hr.ju;have d3:L 3:=hr.dep ⟨3,.data⟩ ge rfl;refine(cP (bu (iM d3) hqc)) ?_;exact(cf (bu @bz (iM d3)))
  ·cases hr.ju;refine(zR) ?_;exact(cf @bz)
  ·cases hr.ju;have d5:L 5:=hr.dep ⟨5,.data⟩ ge rfl;refine(cP (iM d5)) ?_;exact(cf (bu @bz (iM d5)))
  ·cases hr.ju;refine(zR) ?_;exact(cf @bz)
 have v8:∀i,i<8->∀v:SV,vo (λj=>j<8) i v=v:=λi h v=>cG h;have v84:=v8 4 g9;have v86:=v8 6 g9;have v87:=v8 7 g9;change aL _ _ _ _ _ _;refine oA ((93,.ptr 2 (k2*14+8))::(95,.ag [ab e.u1,ab e.u2,ab e.u3,ab e.u4,ab e.u5,ab e.u6])::(96,.ag [ab d.1,ab d.2])::wF c dmg e ev k I d nx.length k2) [.cells [.a (.slice none 0 0 (some 0))],.cells [.buf 2 nx.length 14 none],.cells (q.flatMap ae)] (cf (cJ v84 v86 v87)) ?_;refine zS [2] (lk hfk hfn hrq hbq hkq) hla ?_;refine(zR) ?_;simp only[qT] at hnext;refine(aD (zi hlt2 hnl)) ?_;refine zX hlt2 (cf hnext) trivial
def wi(day fr:Int)(hd:0<=day/\day<=40000):PC aa 275 [ab day,ab fr] (·=.ag [ab (gr day fr),ab (gr day fr)]):=by
 refine pB 19 Tryz.func275 ?_;refine(zV) ?_;cases g:decide (day<=fr)
 ·have hg:=wt g
  have hs:gr day fr=day-(if day-1000000000000<=fr then fr else day-1000000000000):=by rw[gr,v6 hg]
  have hm:eH fr (day-1000000000000)=if day-1000000000000<=fr then fr else day-1000000000000:=rfl
  rw[<-hm] at hs
  have hb:fr<=eH fr (day-1000000000000)/\day-1000000000000<=eH fr (day-1000000000000)/\eH fr (day-1000000000000)<=40000:=by unfold eH;split<;>omega
  rw[hs];have hx:=fk fr (day-1000000000000);generalize eH fr (day-1000000000000)=m at hb hx
  exact(aD g)<|(zN)<|(aD (cJ (QZ (P:=aa) (t:=3) (show -9223372036854775808<=day-1000000000000/\day-1000000000000<=9223372036854775807 from⟨by omega,by omega⟩)) hx (QZ (P:=aa) (t:=3) (show -9223372036854775808<=day-m/\day-m<=9223372036854775807 from⟨by omega,by omega⟩))))<|(zV)<|zo [.cell 4 52]
 ·have hs:gr day fr=0:=by rw[gr,ut (ww g)]
  rw[hs]
  exact(aD g)<|(cI)<|zo [.cell 4 52]
def LU(p:aq)(day:Int)(hd:0<=day/\day<=40000):PC aa 280 [.ag (ae p),ab day,.ip [.fn 275 [] []]] (·=.ag [ab (gr day p.made),ab (gr day p.made)]):=by
 refine pB 11 Tryz.func280 ?_;exact(aD @ae.eq_1)<|(zC)<|(zK (wi day p.made hd))<|(zR)<|zo [.cell 5 52]
abbrev Rv:=List (List Nat×SV)
def oX{S:List SO}{o:Nat}{l:Rv}(s:List Nat)(u:SV)(hS:S[o]?=some (bE AV.str id l)):ik aa S 288 (.map o) (.a (.str s)) u=some (S.set o (bE AV.str id (cy s u l))):=
 Ir (uv:=id) (kt:=9) (et:=286) (by simp only[aC]) mb hS rfl u
def Cz:SV:=.ip [.fn 275 [] []]
def nk:Rv:=cy [97,103,101] (.fn 280 [] [Cz]) (cy [100,97,121,115] (.fn 279 [] [Cz]) (cy [100,97,109,97,103,101] (.fn 278 [] []) (cy [99,121,99,108,101,115] (.fn 277 [] []) (cy [107,109] (.fn 276 [] []) []))))
def kE:PC aa 220 [] (·=lU AV.str id nk):=by
 refine pB 6 Tryz.func220 ?_;refine(om) ?_;refine zZ [(1,.ip [.fn 275 [] []])] 0 rfl zG<|zA [(1,.ip [.fn 275 [] []])] [] zH ?_
 have hm0:SO.map [] [] none=bE AV.str (id:SV->SV) []:=rfl;have p1:=λu=>oX (S:=[bE AV.str id []]) (o:=0) (l:=[]) [107,109] u rfl;have p2:=λ(l:Rv) u=>oX (S:=[bE AV.str id l]) (o:=0) (l:=l) [99,121,99,108,101,115] u rfl;have p3:=λ(l:Rv) u=>oX (S:=[bE AV.str id l]) (o:=0) (l:=l) [100,97,109,97,103,101] u rfl;have p4:=λ(l:Rv) u=>oX (S:=[bE AV.str id l]) (o:=0) (l:=l) [100,97,121,115] u rfl;have p5:=λ(l:Rv) u=>oX (S:=[bE AV.str id l]) (o:=0) (l:=l) [97,103,101] u rfl
 refine(aD (Hm hm0 p1 p2 p3 p4 p5 @List.set_cons_zero.{0}))<|(zE) ?_;exact Bh.of (rs:=[.tmp 0]) (r:=lU AV.str id nk) rfl rfl zl (by exact .map rfl zr) zq
def kG{S:List SO}{l:Rv}(s:List Nat)(ok:Bool):jc aa S 288 (lU AV.str id l) (.a (.str s)) ok=some (cond ok (.cx [getM (ui (.ef)) s l,ai (dF s l)]) (getM (ui (.ef)) s l)):=
 Re (uv:=id) (u0:=ui (.ef)) (k:=s) (kt:=9) (et:=286) (z:=.ef) (by simp only[aC]) mb zW rfl rfl ok
def da(ps:List aq)(name:List Nat):Option aq:=ps.find? λp=>decide (p.name=name)
def Nr{name:List Nat}{k:Nat}{p:aq}(hx:ps[k]?=some p)(hp:p.name=name)(hb:((ps.take k).all λp=>!(decide (p.name=name)))=true):da ps name=some p:=by
 unfold da;rw[List.find?_eq_some_iff_getElem];obtain⟨hlt,he⟩:=rt hx;refine⟨by simpa using hp,k,hlt,he,λj hj=>?_⟩;have h1:=all_eq_true.1 hb (ps[j]' i4) (by rw[mem_iff_getElem?];exact⟨j,by rw[c6,ut hj];exact jp i4⟩);simpa using h1
def Ns{name:List Nat}(hb:(ps.all λp=>!(decide (p.name=name)))=true):da ps name=none:=by
 unfold da;rw[List.find?_eq_none];intro p hp;have h1:=all_eq_true.1 hb p hp;simpa using h1
def Hl:List SV:=[ah [],ah [],ah [],ah [],ab 0,ab 0,ai false,aR,ab 0,ab 0,ab 0,ab 0,ab 0,ab 0]
def iB(ps:List aq)(name:List Nat)(hlen:ps.length<=1000000):PC aa 15 [.ag [an 14 ps ae],ah name] (·=iW ae aq.zero (da ps name)):=by
 refine pB 22 Tryz.func15 ?_;refine(zV) ?_;refine zZ [(1,ah name),(2,.ip [an 14 ps ae]),(4,.ptr 1 0)] 0 rfl (gw @an.eq_1) ?_
 (try change aG _ _ _ _ _)
 refine(zV)<|(zs) ?_;refine zL ps (λk=>((ps.take k).all λp=>!(decide (p.name=name)))=true) (λk=>[(1,ah name),(4,.ptr 1 0),(9,an 14 ps ae),(10,ab ps.length),(11,ab k)]) (λk=>[.gone,.cells Hl]) (cf @Hl.eq_1) zp ?_;intro k hk hall;refine zT ps k ?_ ?_;rintro rfl;rotate_left;intro p hx hlt;rotate_left
 ·refine(gg) ?_;rw[bb] at hall;rw[Ns hall]
  exact(aD @Hl.eq_1)<|jZ [.cell 4 56,.tmp 5] (r:=.cx [.ag (ae aq.zero),ai false]) (hw:=.cx (.cons (.ag (.cons (.a _) (.cons (.a _) (.cons (.a _) (.cons (.a _) (.cons (.a _) (.cons (.a _) (.cons (.a _) (.cons (.nil 2) zr))))))))) zr))
 refine(gA)<|(aD (gm hlt (aQ (e:=14) (enc:=ae) gc hx) @ae.eq_1 @Hl.eq_1)) ?_
 cases he:decide (p.name=name)
 ·refine(aD he)<|(zN)<|(aD (zi hlt hlen)) ?_;refine zX hlt (cf (bu @ae.eq_1 @Hl.eq_1)) (by rw[cM hx,dv,hall];show(true&&(!(decide (p.name=name))&&true))=true;rw[he];rfl)
 ·rw[Nr hx (ww he) hall]
  exact(aD he)<|(zY)<|(aD @ae.eq_1)<|jZ [.cell 4 56,.tmp 5]
inductive aY where
 | mk (op:Int) (name value:List Nat) (n extra:Int) (kids:List aY)
def aY.op:aY->Int
 | .mk op _ _ _ _ _=>op
def aY.name:aY->List Nat
 | .mk _ name _ _ _ _=>name
def aY.value:aY->List Nat
 | .mk _ _ value _ _ _=>value
def aY.n:aY->Int
 | .mk _ _ _ n _ _=>n
def aY.extra:aY->Int
 | .mk _ _ _ _ extra _=>extra
def aY.kids:aY->List aY
 | .mk _ _ _ _ _ kids=>kids
mutual
def aZ:aY->List SV
 | .mk op name value n extra kids=>[ab op,ah name,ah value,ab n,ab extra,.sl kids.length 6 (qm kids)]
def qm:List aY->List SV
 | []=>[]
 | f::fs=>aZ f++qm fs
end
def vG:∀l:List aY,qm l=l.flatMap aZ
 | []=>by rw[qm];rfl
 | f::l=>by rw[qm,vG l,flatMap_cons]
def gJ(op:Int)(name value:List Nat)(n extra:Int)(kids:List aY):aZ (.mk op name value n extra kids)=[ab op,ah name,ah value,ab n,ab extra,.sl kids.length 6 (kids.flatMap aZ)]:=by rw[aZ,vG]
def jk(f:aY):(aZ f).length=6:=by
 obtain⟨op,name,value,n,extra,kids⟩:=f;rw[gJ];rfl
inductive gp:aY->Prop
 | mk {op:Int} {name value:List Nat} {n extra:Int} {kids:List aY}:fi name->fi value->kids.length<=1000000->(∀k∈kids,gp k)->gp (.mk op name value n extra kids)
def mw:List (List Nat):=[[116,114,117,101],[110,111,116],[97,110,100],[111,114],[108,105,109,105,116],[111,118,101,114],[104,97,115],[115,108,111,116],[97,108,108],[97,110,121],[97,116]]
def HZ(n low:Int):Bool:=decide (low<=n)&&decide (n<=9999999)
structure QX where
 kids:Bool
 named:Bool
 ok:Bool
 value:List Nat
 n:Int
 extra:Int
def SK(e:aY):Option QX:=
 let none0:=decide ((e.kids.length:Int)=0)
 if e.op=1 then some ⟨none0,false,true,[],0,0⟩
 else if e.op=2 then some ⟨decide ((e.kids.length:Int)=1),false,true,[],0,0⟩
 else if e.op=3\/e.op=4 then some ⟨decide (1<(e.kids.length:Int)),false,true,[],0,0⟩
 else if e.op=5 then some ⟨none0,true,HZ e.n 0&&HZ e.extra 0,[],e.n,e.extra⟩
 else if e.op=6 then some ⟨none0,true,HZ e.n 0,[],e.n,0⟩
 else if e.op=7 then some ⟨none0,true,!(decide (e.value=[]))&&(decide ((e.value.length:Int)<=200)&&!(mw.contains e.name)),e.value,0,0⟩
 else if e.op=8 then some ⟨none0,true,true,[],0,0⟩
 else if e.op=9 then some ⟨none0,true,cX e.value,e.value,0,0⟩
 else if e.op=10\/e.op=11 then some ⟨decide ((e.kids.length:Int)=1),true,true,[],0,0⟩
 else if e.op=12 then some ⟨none0,true,HZ e.n 1,[],e.n,0⟩
 else none
def FO(q:QX)(e:aY):Bool:=(q.ok&&(!q.named||cX e.name))&&(q.kids&&((q.named||decide (e.name=[]))&&(decide (q.value=e.value)&&(decide (q.n=e.n)&&decide (q.extra=e.extra)))))
def iF(e:aY):Bool:=match SK e with
 | some q=>FO q e
 | none=>false
mutual
def fz:aY->List aY
 | .mk op name value n extra kids=>.mk op name value n extra kids::l9 kids
def l9:List aY->List aY
 | []=>[]
 | k::ks=>fz k++l9 ks
end
def nN(e:aY):Bool:=decide ((fz e).length<=60)&&(fz e).all iF
def jP(a:Int):Int:=if a=0\/a=2 then a else 1
def Lt(a:Int):Int:=2-jP a
def Cp(a b:Int):Int:=gl (jP a) (jP b)
def Qx(a b:Int):Int:=eH (jP a) (jP b)
def Ej(b:Bool):Int:=if b=true then 2 else 0
def dq(p:aq)(cur:List Nat)(day:Int):(Int×Int)×Int:=
 let v:=λ(x:Int×Int)=>if day<0\/40000<day then (((0,0):Int×Int),(13:Int)) else (x,0)
 if cur=[107,109] then v (p.l1,p.l2) else if cur=[99,121,99,108,101,115] then v (p.l3,p.l4) else if cur=[100,97,109,97,103,101] then v (p.l5,p.l6)
 else if cur=[100,97,121,115] then v (gr day p.since,gr day p.since) else if cur=[97,103,101] then v (gr day p.made,gr day p.made) else ((0,0),15)
def dL(ps:List aq)(name:List Nat):aq:=(da ps name).getD aq.zero
def ic(ps:List aq)(part kind:List Nat):List (List Nat):=(fP ps part).filter λn=>decide ((dL ps n).kind=kind)
def Rc(ps:List aq)(day:Int)(op:Int)(name value:List Nat)(n extra:Int)(part:List Nat):Int:=
 let p:=dL ps part
 if op=1 then 2
 else if op=5 then (if (dq p name day).2=0 then Lt (oN (dq p name day).1.1 (dq p name day).1.2 (n+extra)) else 0)
 else if op=6 then (if (dq p name day).2=0 then oN (dq p name day).1.1 (dq p name day).1.2 n else 0)
 else if op=7 then Ej (p.props.any λx=>decide (x.key=name)&&decide (x.value=value))
 else if op=8 then Ej (p.props.any λx=>decide (x.key=name))
 else if op=9 then Ej (ps.any λq=>decide (q.br=part)&&(decide (q.slot=name)&&decide (q.kind=value)))
 else Ej (decide (n<=((ic ps part name).length:Int)))
mutual
def iP(ps:List aq)(day:Int):aY->List Nat->Int
 | .mk op name value n extra kids,part=>
  if op=2 then Lt ((Cq ps day kids part).headD 0)
  else if op=3 then (Cq ps day kids part).foldl Cp 2
  else if op=4 then (Cq ps day kids part).foldl Qx 0
  else if op=10 then (Pg ps day kids (ic ps part name)).foldl Cp 2
  else if op=11 then (Pg ps day kids (ic ps part name)).foldl Qx 0
  else Rc ps day op name value n extra part
def Cq(ps:List aq)(day:Int):List aY->List Nat->List Int
 | [],_=>[]
 | k::ks,part=>iP ps day k part::Cq ps day ks part
def Pg(ps:List aq)(day:Int):List aY->List (List Nat)->List Int
 | [],_=>[]
 | k::_,names=>names.map λn=>iP ps day k n
end
def qK(ps:List aq):Nat->List Nat->List Nat
 | 0,_=>[]
 | f+1,part=>match da ps part with
  | none=>[]
  | some p=>if p.br=[] then part else qK ps f p.br
def Kq(ps:List aq)(part:List Nat):List Nat:=qK ps ps.length part
def nV(ps:List aq)(e:aY)(part:List Nat)(day:Int):Int:=if nN e=true/\Kq ps part≠[] then iP ps day e part else 0
def ID(a:Int):0<=jP a/\jP a<=2:=by unfold jP;split<;>omega
def lg(a:Int):PC aa 219 [ab a] (·=ab (jP a)):=by
 refine pB 8 Tryz.func219 ?_;refine(om)<|(zB) ?_
 cases h0:decide (a=0)
 ·cases h2:decide (a=2)
  ·exact(aD h0)<|(zN)<|(aD h2)<|(lj)<|zo [.tmp 2] (hq:=by rw[jP,v6 (λh=>h.elim (wt h0) (wt h2))])
  ·exact(aD h0)<|(zN)<|(aD h2)<|(cI)<|zo [.tmp 2] (hq:=by rw[jP,ut (.inr (ww h2))])
 ·exact(aD h0)<|(zY)<|(zY)<|(zV)<|zo [.tmp 2] (hq:=by rw[jP,ut (.inl (ww h0))])
def Cc(a:Int):PC aa 133 [ab a] (·=ab (Lt a)):=by
 refine pB 6 Tryz.func133 ?_;have hb:=ID a
 exact(jr)<|(zK (lg a))<|(cP (QZ (P:=aa) (t:=74) (show -9223372036854775808<=2-jP a/\2-jP a<=9223372036854775807 from⟨by omega,by omega⟩)))<|zo [.tmp 2]
def B6(a b:Int):PC aa 134 [ab a,ab b] (·=ab (Cp a b)):=by
 refine pB 10 Tryz.func134 ?_;exact(jr)<|(zK (lg a))<|(zQ)<|(zK (lg b))<|(cP @je)<|zo [.tmp 4]
def GQ(a b:Int):PC aa 135 [ab a,ab b] (·=ab (Qx a b)):=by
 refine pB 10 Tryz.func135 ?_;exact(jr)<|(zK (lg a))<|(zQ)<|(zK (lg b))<|(cP @fk)<|zo [.tmp 4]
def rL(b:Bool):PC aa 138 [ai b] (·=ab (Ej b)):=by
 refine pB 4 Tryz.func138 ?_;refine(om) ?_;cases b
 ·exact(lj)<|zo [.tmp 2]
 ·exact(cI)<|zo [.tmp 2]
def oV(n low:Int):PC aa 217 [ab n,ab low] (·=ai (HZ n low)):=by
 refine pB 12 Tryz.func217 ?_;refine(zV) ?_;cases h1:decide (low<=n)
 ·exact(aD h1)<|zo [.tmp 4] (hq:=by rw[HZ,h1];rfl)
 ·exact(aD h1)<|zo [.tmp 4] (hq:=by rw[HZ,h1];rfl)
def Aj(s:List Nat):PC aa 218 [ah s] (·=ai (mw.contains s)):=by
 refine pB 6 Tryz.func218 ?_;exact(jr)<|(zK (iA mw s g9) (hwk:=.cons (.buf rfl (cu.refl rfl) g9) (.cons (.a _) .nil)))<|(zR)<|zo [.tmp 2]
def OP(p:aq)(day:Int):PC aa 276 [.ag (ae p),ab day] (·=.ag [ab p.l1,ab p.l2]):=by
 refine pB 8 Tryz.func276 ?_;exact(aD @ae.eq_1)<|(zV)<|zo [.cell 4 52]
def OM(p:aq)(day:Int):PC aa 277 [.ag (ae p),ab day] (·=.ag [ab p.l3,ab p.l4]):=by
 refine pB 8 Tryz.func277 ?_;exact(aD @ae.eq_1)<|(zV)<|zo [.cell 4 52]
def ON(p:aq)(day:Int):PC aa 278 [.ag (ae p),ab day] (·=.ag [ab p.l5,ab p.l6]):=by
 refine pB 8 Tryz.func278 ?_;exact(aD @ae.eq_1)<|(zV)<|zo [.cell 4 52]
def IH(p:aq)(day:Int)(hd:0<=day/\day<=40000):PC aa 279 [.ag (ae p),ab day,.ip [.fn 275 [] []]] (·=.ag [ab (gr day p.since),ab (gr day p.since)]):=by
 refine pB 11 Tryz.func279 ?_;exact(aD @ae.eq_1)<|(zC)<|(zK (wi day p.since hd))<|(zR)<|zo [.cell 5 52]
abbrev TP(op:Int)(name value:List Nat)(n extra:Int)(kids:List aY):SV:=.ip [ab op,ah name,ah value,ab n,ab extra,.sl kids.length 6 (kids.flatMap aZ)]
abbrev wN(op:Int)(name value:List Nat)(n extra:Int)(kids:List aY)(kb nb ob:Bool):Fm:=[(1,TP op name value n extra kids),(3,.ptr 0 0),(4,ai kb),(5,ai nb),(7,ai ob)]
def I4(e:aY)(he:gp e):PC aa 130 [.ag (aZ e)] (·=ai (iF e)):=by
 cases he with
 | @mk op name value n extra kids hgn hgv hlen hks=>
 rw[gJ]
 refine pB 147 Tryz.func130 ?_;refine(zV) ?_;refine zZ [(1,TP op name value n extra kids)] 0 rfl zG<|zA [(1,TP op name value n extra kids)] [] zH<|(om)<|(om)<|(zV)<|zA ((6,.fn 217 [] [])::(16,ab op)::wN op name value n extra kids (decide ((kids.length:Int)=0)) true true) [.cells [ab op,ah [],ah [],ab 0,ab 0,aR]] zH ?_
 (repeat refine aG.seq ?_)
 refine aG.mono (Q:=λex st=>(ex=.normal/\∃q,SK (.mk op name value n extra kids)=some q/\Fg st ⟨wN op name value n extra kids q.kids q.named q.ok,147,[.cells [ab op,ah [],ah q.value,ab q.n,ab q.extra,aR]],[]⟩)\/(ex=.ret/\Bh aa Tryz.f130 (·=ai (iF (.mk op name value n extra kids))) .ret st)) ?_ ?_
 ·refine aG.block ?_;cases o1:decide (op=1);rotate_left
  ·have p1:=ww o1
   refine(aD o1)<|(cI) ?_;exact .inl ⟨rfl,⟨decide ((kids.length:Int)=0),false,true,[],0,0⟩,by subst p1;rfl,zH⟩
  have n1:=wt o1
  refine(aD o1)<|(zN) ?_
  cases o2:decide (op=2);rotate_left
  ·have p2:=ww o2
   refine(aD o2)<|(zY)<|(zs) ?_;refine nh [0,1,3,7,0,31] ?_;refine(qg)<|(zM) ?_;exact .inl ⟨rfl,⟨decide ((kids.length:Int)=1),false,true,[],0,0⟩,by subst p2;rfl,zH⟩
  have n2:=wt o2
  refine(aD o2)<|(zN) ?_
  cases o3:decide (op=3);rotate_left
  ·have p3:=ww o3
   refine(aD o3)<|(zY)<|(zY)<|(zs) ?_;refine nh [0,1,3,7,0,31] ?_;refine(qg)<|(zM) ?_;exact .inl ⟨rfl,⟨decide (1<(kids.length:Int)),false,true,[],0,0⟩,by subst p3;rfl,zH⟩
  have n3:=wt o3
  refine(aD o3)<|(zN) ?_
  cases o4:decide (op=4);rotate_left
  ·have p4:=ww o4
   refine(aD o4)<|(zY)<|(zs) ?_;refine nh [0,1,3,7,0,31] ?_;refine(qg)<|(zM) ?_;exact .inl ⟨rfl,⟨decide (1<(kids.length:Int)),false,true,[],0,0⟩,by subst p4;rfl,zH⟩
  have n4:=wt o4
  refine(aD o4)<|(zN) ?_
  cases o5:decide (op=5);rotate_left
  ·have p5:=ww o5
   refine(aD o5)<|(zY) ?_
   cases g:HZ n 0
   ·have hc:=oV n 0;rw[g] at hc
    refine(zs) ?_;refine nh [0,1,0,4,0,0,32,112,240,496,496,1520,4080,8176,3,24563,57343,122879,262143] ?_;refine(qg)<|(xJ (hc))<|(qg) ?_;refine SD.e ii rfl ii rfl rfl ii zl ?_;refine(qg) ?_;refine SD.e ii rfl ii rfl rfl ii zl ?_;refine(qg)<|(zM) ?_;exact .inl ⟨rfl,⟨decide ((kids.length:Int)=0),true,HZ n 0&&HZ extra 0,[],n,extra⟩,by subst p5;rfl,by rw[g];exact zH⟩
   ·have hc:=oV n 0;rw[g] at hc
    refine(zs) ?_;refine nh [0,1,0,4,0,0,32,112,240,496,496,1520,4080,8176,3,24563,57343,122879,262143] ?_;refine(qg)<|(xJ (hc))<|(qg)<|(xJ (oV extra 0))<|(qg) ?_;refine SD.e ii rfl ii rfl rfl ii zl ?_;refine(qg) ?_;refine SD.e ii rfl ii rfl rfl ii zl ?_;refine(qg)<|(zM) ?_;exact .inl ⟨rfl,⟨decide ((kids.length:Int)=0),true,HZ n 0&&HZ extra 0,[],n,extra⟩,by subst p5;rfl,by rw[g];exact zH⟩
  have n5:=wt o5
  refine(aD o5)<|(zN) ?_
  cases o6:decide (op=6);rotate_left
  ·have p6:=ww o6
   refine(aD o6)<|(zY)<|(zs) ?_;refine nh [0,1,0,0,8,28,3,127,255] ?_;refine(qg)<|(xJ (oV n 0))<|(qg) ?_;refine SD.e ii rfl ii rfl rfl ii zl ?_;refine(qg)<|(zM) ?_;exact .inl ⟨rfl,⟨decide ((kids.length:Int)=0),true,HZ n 0,[],n,0⟩,by subst p6;rfl,zH⟩
  have n6:=wt o6
  refine(aD o6)<|(zN) ?_
  cases o7:decide (op=7);rotate_left
  ·have p7:=ww o7;cases g1:decide (value=[])
   ·cases g2:decide ((value.length:Int)<=200)
    ·refine(aD o7)<|(zY)<|(zs) ?_;refine nh [0,1,0,4,12,28,60,124,252,508,1020,2044,4092,8188,16380,32764,65532,3,163839,524287] ?_;refine(Hp (bu g1 g2)) ?_;refine SD.e ii rfl ii rfl rfl ii zl ?_;refine(qg)<|(zM) ?_;exact .inl ⟨rfl,⟨decide ((kids.length:Int)=0),true,!(decide (value=[]))&&(decide ((value.length:Int)<=200)&&!(mw.contains name)),value,0,0⟩,by subst p7;rfl,by rw[g1,g2];exact zH⟩
    ·refine(aD o7)<|(zY)<|(zs) ?_;refine nh [0,1,0,4,12,28,60,124,252,508,1020,2044,4092,8188,16380,32764,65532,3,163839,524287] ?_;refine(Hp (bu g1 g2))<|(xJ (Aj name))<|(qg) ?_;refine SD.e ii rfl ii rfl rfl ii zl ?_;refine(qg)<|(zM) ?_;exact .inl ⟨rfl,⟨decide ((kids.length:Int)=0),true,!(decide (value=[]))&&(decide ((value.length:Int)<=200)&&!(mw.contains name)),value,0,0⟩,by subst p7;rfl,by rw[g1,g2];exact zH⟩
   ·refine(aD o7)<|(zY)<|(zs) ?_;refine nh [0,1,0,4,12,28,60,124,252,508,1020,2044,4092,8188,16380,32764,65532,3,163839,524287] ?_;refine(Hp g1) ?_;refine SD.e ii rfl ii rfl rfl ii zl ?_;refine(qg)<|(zM) ?_;exact .inl ⟨rfl,⟨decide ((kids.length:Int)=0),true,!(decide (value=[]))&&(decide ((value.length:Int)<=200)&&!(mw.contains name)),value,0,0⟩,by subst p7;rfl,by rw[g1];exact zH⟩
  have n7:=wt o7
  refine(aD o7)<|(zN) ?_
  cases o8:decide (op=8);rotate_left
  ·have p8:=ww o8
   refine(aD o8)<|(zY) ?_;exact .inl ⟨rfl,⟨decide ((kids.length:Int)=0),true,true,[],0,0⟩,by subst p8;rfl,zH⟩
  have n8:=wt o8
  refine(aD o8)<|(zN) ?_
  cases o9:decide (op=9);rotate_left
  ·have p9:=ww o9
   refine(aD o9)<|(zY)<|(zs) ?_;refine nh [0,1,0,4,12,3,63,127] ?_;refine(qg)<|(xJ (dW value hgv))<|(qg) ?_;refine SD.e ii rfl ii rfl rfl ii zl ?_;refine(qg)<|(zM) ?_;exact .inl ⟨rfl,⟨decide ((kids.length:Int)=0),true,cX value,value,0,0⟩,by subst p9;rfl,zH⟩
  have n9:=wt o9
  refine(aD o9)<|(zN) ?_
  cases o10:decide (op=10);rotate_left
  ·have p10:=ww o10
   refine(aD o10)<|(zY)<|(zY)<|(zV) ?_;exact .inl ⟨rfl,⟨decide ((kids.length:Int)=1),true,true,[],0,0⟩,by subst p10;rfl,zH⟩
  have n10:=wt o10
  refine(aD o10)<|(zN) ?_
  cases o11:decide (op=11);rotate_left
  ·have p11:=ww o11
   refine(aD o11)<|(cI) ?_;exact .inl ⟨rfl,⟨decide ((kids.length:Int)=1),true,true,[],0,0⟩,by subst p11;rfl,zH⟩
  have n11:=wt o11
  refine(aD o11)<|(zN) ?_
  cases o12:decide (op=12);rotate_left
  ·have p12:=ww o12
   refine(aD o12)<|(zY)<|(zs) ?_;refine nh [0,1,0,0,8,28,3,127,255] ?_;refine(qg)<|(xJ (oV n 1))<|(qg) ?_;refine SD.e ii rfl ii rfl rfl ii zl ?_;refine(qg)<|(zM) ?_;exact .inl ⟨rfl,⟨decide ((kids.length:Int)=0),true,HZ n 1,[],n,0⟩,by subst p12;rfl,zH⟩
  have n12:=wt o12
  refine(aD o12)<|(zN) ?_
  have hnone:iF (.mk op name value n extra kids)=false:=by
   unfold iF SK;simp only[aY.op,n1,n2,n3,n4,n5,n6,n7,n8,n9,n10,n11,n12,if_false,or_self]
  refine(zV) ?_;refine aG.ret ?_;refine .inr ⟨rfl,?_⟩;exact zO [.tmp 2] (hq:=by (try simp only[eC,bJ]);first | done | (rw[hnone]))
 rintro ex st (⟨rfl,q,hq,hf⟩ | ⟨rfl,hs⟩);rotate_left
 ·exact hs
 change aG _ _ _ _ _;refine aG.fg hf ?_;clear hf
 have hres:iF (.mk op name value n extra kids)=FO q (.mk op name value n extra kids):=by unfold iF;rw[hq]
 rw[hres];clear hres hq;obtain⟨kb,nb,ob,v',n',x'⟩:=q;have hM:=dW name hgn;rw[show FO ⟨kb,nb,ob,v',n',x'⟩ (.mk op name value n extra kids)=((ob&&(!nb||cX name))&&(kb&&((nb||decide (name=[]))&&(decide (v'=value)&&(decide (n'=n)&&decide (x'=extra)))))) from rfl];refine(zV) ?_
 (repeat refine aG.seq ?_)
 refine aG.mono (Q:=λex st=>ex=.normal/\Fg st ⟨[(1,TP op name value n extra kids),(3,.ptr 0 0),(4,ai kb),(7,ai (ob&&(!nb||cX name)))],147,[.cells [ab op,ah (cond nb name []),ah v',ab n',ab x',aR]],[]⟩) ?_ ?_
 ·cases nb
  ·refine(zN) ?_;exact⟨rfl,by rw[show(ob&&(!false||cX name))=ob by cases ob<;>rfl];exact zH⟩
  ·cases ob
   ·refine(zY)<|(zs) ?_;refine nh [0,1,0,4,12,28,60,124,3,383,1023] ?_;refine(qg) ?_;refine SD.e ii rfl ii rfl rfl ii zl ?_;refine(qg)<|(zM) ?_;exact⟨rfl,zH⟩
   ·refine(zY)<|(zs) ?_;refine nh [0,1,0,4,12,28,60,124,3,383,1023] ?_;refine(qg)<|(xJ (hM))<|(qg) ?_;refine SD.e ii rfl ii rfl rfl ii zl ?_;refine(qg)<|(zM) ?_;exact⟨rfl,zH⟩
 rintro ex st ⟨rfl,hf⟩;refine aG.fg hf ?_;clear hf;change aG _ _ _ _ _
 have hsame:(cond nb name []=name)↔(nb||decide (name=[]))=true:=by cases nb<;>simp[eq_comm]
 generalize (ob&&(!nb||cX name))=o1;cases o1
 ·exact(zV)<|zo [.tmp 2]
 cases kb
 ·exact(zV)<|zo [.tmp 2]
 cases g1:decide (cond nb name []=name)
 ·have e1:(nb||decide (name=[]))=false:=by
   cases h:(nb||decide (name=[]))
   ·rfl
   ·exact un (hsame.2 h) (wt g1)
  rw[e1]
  exact(aD g1)<|zo [.tmp 2]
 have e1:=hsame.1 (ww g1);rw[e1];cases g2:decide (v'=value)
 ·exact(aD (bu g1 g2))<|zo [.tmp 2]
 cases g3:decide (n'=n)
 ·exact(aD (cJ g1 g2 g3))<|zo [.tmp 2]
 ·exact(aD (cJ g1 g2 g3))<|zo [.tmp 2]
def cz(x:aY):aZ x=[ab x.op,ah x.name,ah x.value,ab x.n,ab x.extra,.sl x.kids.length 6 (x.kids.flatMap aZ)]:=by
 obtain⟨op,name,value,n,extra,kids⟩:=x;exact gJ op name value n extra kids
def NR(op:Int)(name value:List Nat)(n extra:Int)(kids:List aY):fz (.mk op name value n extra kids)=.mk op name value n extra kids::kids.flatMap fz:=by
 rw[fz]
 congr 1
 induction kids with
 | nil=>rfl
 | cons k ks ih=>rw[l9,ih,flatMap_cons]
def BQ(p:aY->Bool)(e:aY):(fz e).all p=(p e&&e.kids.all λk=>(fz k).all p):=by
 obtain⟨op,name,value,n,extra,kids⟩:=e;rw[NR,List.all_cons,List.all_flatMap];rfl
variable{e:aY}
def gp.Td(h:gp e):e.kids.length<=1000000/\∀k∈e.kids,gp k:=by
 cases h with
 | mk _ _ h1 h2=>exact⟨h1,h2⟩
def yD{k:aY}(h:k∈e.kids):SizeOf.sizeOf k<SizeOf.sizeOf e:=by
 obtain⟨op,name,value,n,extra,kids⟩:=e;have h1:=ci (show k∈kids from h)
 have h2:SizeOf.sizeOf (aY.mk op name value n extra kids)=1+SizeOf.sizeOf op+SizeOf.sizeOf name+SizeOf.sizeOf value+SizeOf.sizeOf n+SizeOf.sizeOf extra+SizeOf.sizeOf kids:=by simp
 omega
variable{fid:FuncId}{first:List SV}{cap:List SV}
def DO{l:List aY}(p:aY->Bool)(hlen:l.length<=1000000)(hp:∀x∈l,PC aa fid ((first++[.ag (aZ x)])++cap) (·=ai (p x)))(hg:bR first=true/\bR cap=true):PC aa 274 [an 6 l aZ,.fn fid first cap] (·=ab (fO p l)):=by
 refine pB 19 func274 ?_;refine(aD @an.eq_1)<|(zV)<|(zs) ?_;refine zL l (λk=>∀(i:Nat) y,i<k->l[i]?=some y->p y=false) (λk=>[(0,.sl l.length 6 (l.flatMap aZ)),(1,.fn fid first cap),(7,ab l.length),(8,ab k)]) (λk=>[]) zH zp ?_;intro k hk hall;refine zT l k ?_ ?_;rintro rfl;rotate_left;intro x hx hlt;rotate_left
 ·exact(gg)<|(zV)<|zo [.tmp 4] (hq:=by rw[ib hall])
 ·have hpx0:=hp x (mem_iff_getElem?.2 ⟨k,hx⟩);have hxl:((l.flatMap aZ).drop (k*6)).take 6=aZ x:=aQ jk hx;rw[cz x] at hxl hpx0
  refine(gA)<|(zV)<|(e9 (bu hlt hxl))<|(zK hpx0 (hwk:=((cu.refl hg.1).app zr).app (cu.refl hg.2))) ?_;refine aL.nil ?_
  change aG _ _ _ _ _;cases hpx:p x
  ·refine(zN)<|(aD (zi hlt hlen)) ?_;refine zX hlt zH ?_
   intro i y hi hy;by_cases hik:i=k
   ·subst hik;rw[hx] at hy;cases hy;exact hpx
   ·exact hall i y i4 hy
  ·exact(cI)<|zo [.tmp 4] (hq:=by rw[lT hx hpx hall])
def DE{l:List (aY)}(p:aY->Bool)(hlen:l.length<=1000000)(hp:∀x∈l,PC aa fid ((first++[.ag (aZ x)])++cap) (·=ai (p x)))(hg:bR first=true/\bR cap=true):PC aa 215 [an 6 l aZ,.fn fid first cap] (·=ai (l.any p)):=by
 refine pB 9 func215 ?_;exact(jr)<|(zK (DO p hlen hp hg) (hwk:=.cons (Wk.sl _ _ _) (.cons (.fn (cu.refl hg.1) (cu.refl hg.2)) .nil)))<|(zR)<|zo [.tmp 4] (hq:=by rw[nB])
def Jj(k:aY)(b:Bool)(ih:PC aa 129 [.ag (aZ k),.fn 130 [] []] (·=ai b)):PC aa 216 [.ag (aZ k),.ip [.fn 130 [] []]] (·=ai (!b)):=by
 refine pB 8 func216 ?_;rw[cz] at ih ⊢
 exact(jr)<|(zK ih)<|(zR)<|zo [.tmp 3]
def Ap:∀(d:Nat) (e:aY),SizeOf.sizeOf e<d->gp e->PC aa 129 [.ag (aZ e),.fn 130 [] []] (·=ai ((fz e).all iF))
 | 0,e,hd,_=>un hd (cc _)
 | d+1,e,hd,he=>by
  obtain⟨hlen,hks⟩:=he.Td;have hn:=I4 e he;have hcof:=DE (λk=>!((fz k).all iF)) (l:=e.kids) (fid:=216) (first:=[]) (cap:=[.ip [.fn 130 [] []]]) hlen (λk hk=>Jj k _ (Ap d k (by have:=yD hk;omega) (hks k hk))) ⟨rfl,rfl⟩
  have hr:(fz e).all iF=(iF e&&!(e.kids.any λk=>!((fz k).all iF))):=by
   rw[BQ,List.not_any_eq_all_not];simp
  rw[hr];refine pB 15 func129 ?_;rw[cz] at hn ⊢
  refine(zV) ?_;refine zZ [(2,.ip [ab e.op,ah e.name,ah e.value,ab e.n,ab e.extra,.sl e.kids.length 6 (e.kids.flatMap aZ)]),(3,.ptr 1 0)] 0 rfl zG<|zZ [(2,.ip [ab e.op,ah e.name,ah e.value,ab e.n,ab e.extra,.sl e.kids.length 6 (e.kids.flatMap aZ)]),(3,.ip [.fn 130 [] []])] 1 rfl zG<|zA [(2,.ip [ab e.op,ah e.name,ah e.value,ab e.n,ab e.extra,.sl e.kids.length 6 (e.kids.flatMap aZ)]),(3,.ip [.fn 130 [] []])] [] zH<|(zC)<|(zK hn) ?_
  cases iF e
  ·exact(zR)<|zo [.tmp 4]
  ·exact(zQ)<|(zK hcof)<|(zR)<|zo [.tmp 4]
mutual
def lP:aY->Int->Int×Bool
 | .mk _ _ _ _ _ kids,n=>if n+1<=60 then pk kids (n+1) else (n+1,false)
def pk:List aY->Int->Int×Bool
 | [],n=>(n,true)
 | k::ks,n=>if (lP k n).2=true then pk ks (lP k n).1 else ((lP k n).1,false)
end
def Pw(e:aY)(n:Int):lP e n=if n+1<=60 then pk e.kids (n+1) else (n+1,false):=by
 obtain⟨op,name,value,m,extra,kids⟩:=e;rw[lP];rfl
def Fi:List aY->Int->Int->Int
 | [],_,_ => -1
 | k::ks,n,j=>if (lP k n).2=true then Fi ks (lP k n).1 (j+1) else j
mutual
def CC:∀(e:aY) (n:Int),n<=60->(((lP e n).2=true/\(lP e n).1=n+(fz e).length/\n+(fz e).length<=60)\/((lP e n).2=false/\(lP e n).1=61/\60<n+(fz e).length))
 | .mk op name value m extra kids,n,hn=>by
  have ih:=JF kids (n+1);rw[lP,fz,i7];split
  ·rename_i h
   rcases ih h with⟨h1,h2,h3⟩ | ⟨h1,h2,h3⟩
   ·exact .inl ⟨h1,by rw[h2];omega,by omega⟩
   ·exact .inr ⟨h1,h2,by omega⟩
  ·exact .inr ⟨rfl,by show n+1=61;omega,by omega⟩
def JF:∀(l:List aY) (n:Int),n<=60->(((pk l n).2=true/\(pk l n).1=n+(l9 l).length/\n+(l9 l).length<=60)\/((pk l n).2=false/\(pk l n).1=61/\60<n+(l9 l).length))
 | [],n,hn=>.inl ⟨rfl,by rw[pk,l9];simp,by rw[l9];simpa using hn⟩
 | k::ks,n,hn=>by
  have h:=CC k n hn;rw[pk,l9,li]
  rcases h with⟨h1,h2,h3⟩ | ⟨h1,h2,h3⟩
  ·rw[ut h1]
   rcases JF ks (lP k n).1 i4 with⟨i1,i2,i3⟩ | ⟨i1,i2,i3⟩
   ·exact .inl ⟨i1,by rw[i2];omega,by omega⟩
   ·exact .inr ⟨i1,i2,by omega⟩
  ·rw[v6 (by rw[h1];decide)];exact .inr ⟨rfl,h2,by omega⟩
end
def M4(e:aY):decide ((lP e 0).1<=60)=decide ((fz e).length<=60):=by
 rw[decide_eq_decide]
 rcases CC e 0 g9 with⟨h1,h2,h3⟩ | ⟨h1,h2,h3⟩<;>omega
def JP:∀(l:List aY) (n j:Int),0<=j->decide (0<=Fi l n j)=!(pk l n).2
 | [],_,_,_=>rfl
 | k::ks,n,j,hj=>by
  rw[Fi,pk];split
  ·exact JP ks _ _ i4
  ·show decide (0<=j)=true;rw[wp];exact hj
def A7(e:aY)(n:Int)(hn:0<=n/\n<=60):SC aa 214 [.ag (aZ e),.ptr 0 0] [.cells [ab n]] [] (λr S'=>r=ai (decide (n+1<=60))/\S'=[.cells [ab (n+1)]]):=by
 refine OE 8 Tryz.func214 ?_;rw[cz]
 refine(zV)<|(aD (Ct (P:=aa) (t:=3) (a:=n) (b:=1) i4))<|(zV)<|zA [(3,ai (decide (n+1<=60))),(1000000,.ptr 0 0)] [.cells [ab (n+1)]] zH<|(zE) ?_;exact zP [.tmp 3]
def G9(k:aY)(n:Int)(q:Int×Bool)(ih:SC aa 129 [.ag (aZ k),.fn 214 [] [.ptr 0 0]] [.cells [ab n]] [] (λr S'=>r=ai q.2/\S'=[.cells [ab q.1]])):
 SC aa 216 [.ag (aZ k),.ptr 0 0] [.cells [.fn 214 [] [.ptr 1 0]],.cells [ab n]] [] (λr S'=>r=ai (!q.2)/\S'=[.cells [.fn 214 [] [.ptr 1 0]],.cells [ab q.1]]):=by
 refine Rt 8 func216 ?_;rw[cz] at ih ⊢
 refine(jr) ?_;refine zS [1] trivial ih ?_;refine(zR)<|zA [(3,ai (!q.2)),(1000000,.ptr 0 0),(1000001,.ptr 1 0)] [.cells [.fn 214 [] [.ptr 1 0]],.cells [ab q.1]] zH<|(zE) ?_;exact zP [.tmp 3]
abbrev MQ:SO:=.cells [.fn 214 [] [.ptr 1 0]]
def Hs(k:aY):Prop:=∀n:Int,0<=n/\n<=60->SC aa 129 [.ag (aZ k),.fn 214 [] [.ptr 0 0]] [.cells [ab n]] [] (λr S'=>r=ai (lP k n).2/\S'=[.cells [ab (lP k n).1]])
def L0(l:List aY)(n:Int)(hn:0<=n/\n<=60)(hlen:l.length<=1000000)(hkk:∀k∈l,Hs k):SC aa 274 [an 6 l aZ,.fn 216 [] [.ptr 0 0]] [MQ,.cells [ab n]] [] (λr S'=>r=ab (Fi l n 0)/\S'=[MQ,.cells [ab (pk l n).1]]):=by
 refine Rt 19 func274 ?_;refine(aD @an.eq_1)<|(zV)<|(zs) ?_;refine Ho l (λk (v:Int)=>(0<=v/\v<=60)/\Fi l n 0=Fi (l.drop k) v k/\(pk l n).1=(pk (l.drop k) v).1) (λk v=>[(0,.sl l.length 6 (l.flatMap aZ)),(1,.fn 216 [] [.ptr 0 0]),(7,ab l.length),(8,ab k),(1000000,.ptr 0 0),(1000001,.ptr 1 0)]) (λk v=>[MQ,.cells [ab v]]) (n) zH (by exact⟨hn,rfl,rfl⟩) ?_;intro k v hk hall;refine zT l k ?_ ?_;rintro rfl;rotate_left;intro x hx hlt;rotate_left
 ·refine(gg)<|(zV) ?_
  rw[cl] at hall;refine(zE) ?_;exact zP [.tmp 4] (hq:=by (try simp only[eC,bJ]);first | done | (rw[hall.2.1,hall.2.2];first | exact⟨rfl,rfl⟩ | exact⟨trivial,rfl⟩ | exact⟨rfl,trivial⟩ | exact⟨trivial,trivial⟩))
 rw[eV hx,Fi,pk] at hall;have hxl:((l.flatMap aZ).drop (k*6)).take 6=aZ x:=aQ jk hx;have hw:=G9 x v (lP x v) (hkk x (al hx) v hall.1);rw[cz x] at hxl hw
 refine(gA)<|(zV)<|(e9 (bu hlt hxl)) ?_;refine zS [0,1] trivial hw ?_;refine aL.nil ?_
 change aG _ _ _ _ _;have hok:=CC x v hall.1.2;cases hc:(lP x v).2
 ·rw[hc,v6 bv,v6 bv] at hall
  refine(cI)<|(zE) ?_;exact zP [.tmp 4] (hq:=by (try simp only[eC,bJ]);first | done | (rw[hall.2.1,hall.2.2];first | exact⟨rfl,rfl⟩ | exact⟨trivial,rfl⟩ | exact⟨rfl,trivial⟩ | exact⟨trivial,trivial⟩))
 ·rw[hc,ut rfl,ut rfl] at hall;rw[hc] at hok
  have hb:0<=(lP x v).1/\(lP x v).1<=60:=by
   rcases hok with⟨_,h1,h2⟩ | ⟨h1,_⟩
   ·omega
   ·cases h1
  refine(zN)<|(aD (zi hlt hlen)) ?_;refine w8 hlt ((lP x v).1) zH (⟨hb,hall.2.1,hall.2.2⟩)
def LV(l:List aY)(n:Int)(hn:0<=n/\n<=60)(hlen:l.length<=1000000)(hkk:∀k∈l,Hs k):SC aa 215 [an 6 l aZ,.fn 216 [] [.ptr 0 0]] [MQ,.cells [ab n]] [] (λr S'=>r=ai (!(pk l n).2)/\S'=[MQ,.cells [ab (pk l n).1]]):=by
 have hi:=L0 l n hn hlen hkk;have hd:=JP l n 0 (Int.le_refl _);generalize Fi l n 0=j at hi hd
 refine Rt 9 func215 ?_;refine(zV)<|(e9 @an.eq_1) ?_;refine zS [0,1] trivial hi ?_;refine(cP hd)<|(zE) ?_;exact zP [.tmp 4]
def Ao:∀(d:Nat) (e:aY),SizeOf.sizeOf e<d->gp e->Hs e
 | 0,e,hd,_=>un hd (cc _)
 | d+1,e,hd,he=>by
  intro n hn;obtain⟨hlen,hks⟩:=he.Td;have hst:=A7 e n hn;rw[Pw];refine OE 15 func129 ?_;rw[cz] at hst ⊢
  refine(zV) ?_;refine zZ [(2,.ip [ab e.op,ah e.name,ah e.value,ab e.n,ab e.extra,.sl e.kids.length 6 (e.kids.flatMap aZ)]),(3,.ptr 2 0),(1000000,.ptr 0 0)] 1 rfl zG<|zA [(2,.ip [ab e.op,ah e.name,ah e.value,ab e.n,ab e.extra,.sl e.kids.length 6 (e.kids.flatMap aZ)]),(3,.ptr 2 0),(1000000,.ptr 0 0)] [.cells [ab n],.gone,.cells [.fn 214 [] [.ptr 0 0]]] zH ?_
  by_cases h60:n+1<=60
  ·rw[wl h60] at hst;rw[ut h60];have hcof:=LV e.kids (n+1) i4 hlen λk hk=>Ao d k (by have:=yD hk;omega) (hks k hk)
   refine(zC) ?_;refine zS [0] trivial hst ?_;refine(zQ) ?_;refine zS [2,0] trivial hcof ?_ (hc:=Cg @an.eq_1);refine(zR)<|zA [(4,ai (pk e.kids (n+1)).2),(1000000,.ptr 0 0)] [.cells [ab (pk e.kids (n+1)).1]] (cf @not_not)<|(zE) ?_;exact zP [.tmp 4]
  ·rw[wd h60] at hst;rw[v6 h60]
   refine(zC) ?_;refine zS [0] trivial hst ?_;refine(zR)<|zA [(4,ai false),(1000000,.ptr 0 0)] [.cells [ab (n+1)]] zH<|(zE) ?_;exact zP [.tmp 4]
def Je(e:aY)(he:gp e):PC aa 128 [.ag (aZ e)] (·=ab (lP e 0).1):=by
 have hw:=Ao _ e (be _) he 0 ⟨by decide,by decide⟩;refine pB 8 Tryz.func128 ?_;rw[cz] at hw ⊢
 refine(zV) ?_;refine zZ [(1,.ip [ab e.op,ah e.name,ah e.value,ab e.n,ab e.extra,.sl e.kids.length 6 (e.kids.flatMap aZ)])] 0 rfl zG<|zA [(1,.ip [ab e.op,ah e.name,ah e.value,ab e.n,ab e.extra,.sl e.kids.length 6 (e.kids.flatMap aZ)])] [] zH<|(jr) ?_;refine zS [0] trivial hw ?_;exact(zR)<|(zV)<|zo [.tmp 2]
def wZ(name kind:List Nat)(e:aY)(hn:fi name)(hk:fi kind)(he:gp e):PC aa 57 [.ag (ah name::ah kind::aZ e)] (·=ai (cX name&&(cX kind&&nN e))):=by
 have hs:=Je e he;have hw:=Ap _ e (be _) he
 have hv:nN e=(decide ((lP e 0).1<=60)&&(fz e).all iF):=by rw[M4];rfl
 rw[hv];generalize (fz e).all iF=w at hw;generalize (lP e 0).1=m at hs;refine pB 22 Tryz.func57 ?_;rw[cz] at hs hw ⊢
 refine(zV) ?_;refine zZ [(1,.ip [ah name,ah kind,ab e.op,ah e.name,ah e.value,ab e.n,ab e.extra,.sl e.kids.length 6 (e.kids.flatMap aZ)])] 0 rfl zG<|zA [(1,.ip [ah name,ah kind,ab e.op,ah e.name,ah e.value,ab e.n,ab e.extra,.sl e.kids.length 6 (e.kids.flatMap aZ)])] [] zH<|(zC)<|(zK (dW name hn)) ?_
 cases cX name
 ·exact(zR)<|zo [.tmp 2]
 refine(zQ)<|(zK (dW kind hk)) ?_
 cases cX kind
 ·exact(zR)<|zo [.tmp 2]
 refine(zQ)<|(zK hs) ?_
 cases g:decide (m<=60)
 ·exact(cP g)<|zo [.tmp 2]
 exact(Mf g)<|(zK hw)<|(zR)<|zo [.tmp 2]
section
variable (A:List Nat->Bool)
variable {A}
def Jt(name:List Nat):∀(l:List aq) (i:Nat) (m:List (List Nat×Int)),(dF name (nQ i m l)=(dF name m||(da l name).isSome))/\(dF name m=true->getM 0 name (nQ i m l)=getM 0 name m)/\
 (dF name m=false->(da l name).isSome=true->∃k,getM 0 name (nQ i m l)=((i+k:Nat):Int)/\l[k]?=da l name)
 | [],i,m=>⟨by rw[nQ];simp[da],λ_=>rfl,λ_ h=>by simp[da] at h⟩
 | p::l,i,m=>by
  obtain⟨a1,a2,a3⟩:=Jt name l (i+1) (if dF p.name m=true then m else cy p.name i m)
  have hf:da (p::l) name=if p.name=name then some p else da l name:=by
   unfold da;rw[List.find?_cons];by_cases e:p.name=name
   ·rw[ut e,wl e]
   ·rw[v6 e,wd e]
  have hh:dF name (if dF p.name m=true then m else cy p.name (i:Int) m)=(dF name m||decide (p.name=name)):=by
   split
   ·rename_i h;by_cases e:p.name=name
    ·rw[<-e,h];simp
    ·simp[e]
   ·rw[qx,Bool.or_comm]
    congr 1
    by_cases e:p.name=name
    ·rw[wl e,wl e.symm]
    ·rw[wd e,wd λh=>e h.symm]
  rw[nQ];refine⟨?_,λh=>?_,λh h2=>?_⟩
  ·rw[a1,hh,hf];by_cases e:p.name=name
   ·simp[e]
   ·simp[e]
  ·rw[a2 (by rw[hh,h];rfl)];split
   ·rfl
   ·rename_i hp;rw[qv,v6];intro e;rw[<-e,h] at hp;exact hp rfl
  ·by_cases e:p.name=name
   ·refine⟨0,?_,?_⟩
    ·rw[a2 (by rw[hh,wl e,Bool.or_true]),e,h,v6 bv,qv,ut rfl];rfl
    ·rw[hf,ut e];rfl
   ·rw[hf,v6 e] at h2 ⊢;obtain⟨k,k1,k2⟩:=a3 (by rw[hh,h,wd e];rfl) h2;exact⟨k+1,by rw[k1];congr 1;omega,by rw[List.getElem?_cons_succ];exact k2⟩
def La(ps:List aq)(name:List Nat):pA ps (nQ 0 [] ps) name=da ps name:=by
 obtain⟨a1,_,a3⟩:=Jt name ps 0 [];unfold pA;rw[a1];cases h:(da ps name).isSome
 ·rw[show(dF name ([]:List (List Nat×Int))||false)=false from rfl,v6 bv]
  cases hf:da ps name with
  | none=>rfl
  | some x=>rw[hf] at h;cases h
 ·obtain⟨k,k1,k2⟩:=a3 rfl h;rw[show(dF name ([]:List (List Nat×Int))||true)=true from rfl,ut rfl,k1,fx,es,k2]
end
def Hg(q:(Int×Int)×Int):SV:=.cx [.ag [ab q.1.1,ab q.1.2],ab q.2]
abbrev wV(p:aq)(cur:List Nat)(day:Int):Fm:=[(1,ah cur),(2,ab day),(3,.ip (ae p)),(6,.ptr 1 0),(7,ab 0)]
def G4(p:aq)(day:Int):PC aa 136 [.ag (ae p),ah [107,109],ab day] (·=Hg (dq p [107,109] day)):=by
 have hq:dq p [107,109] day=if day<0\/40000<day then (((0,0):Int×Int),(13:Int)) else ((p.l1,p.l2),0):=rfl
 refine pB 32 cp ?_;refine(aD @ae.eq_1) ?_;refine zZ (wV p [107,109] day) 0 rfl (gw @ae.eq_1) ?_
 (try change aG _ _ _ _ _)
 have hg:getM (ui (.ef)) [107,109] nk=.fn 276 [] []:=rfl;have hh:dF [107,109] nk=true:=rfl
 refine(zC)<|(zK kE (hfl:=.inr zr)) ?_;refine aL.r0 ii (by simp only[cL,bI,an,aC,m7,m6,↓reduceIte,ac,aj,ap,ad,am,ak,au,bl,kG (l:=nk) [107,109],hg,hh];first | done | rfl) ?_;refine(zB)<|(El) ?_
 cases d1:decide (day<0);rotate_left
 ·exact(aD d1)<|(cI)<|jZ [.cell 6 52,.tmp 7] (hq:=by rw[hq,ut (.inl (ww d1))];rfl)
 cases d2:decide (40000<day);rotate_left
 ·exact(aD (bu d1 d2))<|(cI)<|jZ [.cell 6 52,.tmp 7] (hq:=by rw[hq,ut (.inr (ww d2))];rfl)
 have h1:0<=day:=by have:=wt d1;omega
 have h2:day<=40000:=by have:=wt d2;omega
 exact(aD (bu d1 d2))<|(zN)<|(e9 (bu @ae.eq_1 @Cz.eq_1))<|(zK (OP p day))<|(zR)<|jZ [.cell 6 52,.tmp 7] (hq:=by rw[hq,v6 i4];rfl)
def G5(p:aq)(day:Int):PC aa 136 [.ag (ae p),ah [99,121,99,108,101,115],ab day] (·=Hg (dq p [99,121,99,108,101,115] day)):=by
 have hq:dq p [99,121,99,108,101,115] day=if day<0\/40000<day then (((0,0):Int×Int),(13:Int)) else ((p.l3,p.l4),0):=rfl
 refine pB 32 cp ?_;refine(aD @ae.eq_1) ?_;refine zZ (wV p [99,121,99,108,101,115] day) 0 rfl (gw @ae.eq_1) ?_
 (try change aG _ _ _ _ _)
 have hg:getM (ui (.ef)) [99,121,99,108,101,115] nk=.fn 277 [] []:=rfl;have hh:dF [99,121,99,108,101,115] nk=true:=rfl
 refine(zC)<|(zK kE (hfl:=.inr zr)) ?_;refine aL.r0 ii (by simp only[cL,bI,an,aC,m7,m6,↓reduceIte,ac,aj,ap,ad,am,ak,au,bl,kG (l:=nk) [99,121,99,108,101,115],hg,hh];first | done | rfl) ?_;refine(zB)<|(El) ?_
 cases d1:decide (day<0);rotate_left
 ·exact(aD d1)<|(cI)<|jZ [.cell 6 52,.tmp 7] (hq:=by rw[hq,ut (.inl (ww d1))];rfl)
 cases d2:decide (40000<day);rotate_left
 ·exact(aD (bu d1 d2))<|(cI)<|jZ [.cell 6 52,.tmp 7] (hq:=by rw[hq,ut (.inr (ww d2))];rfl)
 have h1:0<=day:=by have:=wt d1;omega
 have h2:day<=40000:=by have:=wt d2;omega
 exact(aD (bu d1 d2))<|(zN)<|(e9 (bu @ae.eq_1 @Cz.eq_1))<|(zK (OM p day))<|(zR)<|jZ [.cell 6 52,.tmp 7] (hq:=by rw[hq,v6 i4];rfl)
def G6(p:aq)(day:Int):PC aa 136 [.ag (ae p),ah [100,97,109,97,103,101],ab day] (·=Hg (dq p [100,97,109,97,103,101] day)):=by
 have hq:dq p [100,97,109,97,103,101] day=if day<0\/40000<day then (((0,0):Int×Int),(13:Int)) else ((p.l5,p.l6),0):=rfl
 refine pB 32 cp ?_;refine(aD @ae.eq_1) ?_;refine zZ (wV p [100,97,109,97,103,101] day) 0 rfl (gw @ae.eq_1) ?_
 (try change aG _ _ _ _ _)
 have hg:getM (ui (.ef)) [100,97,109,97,103,101] nk=.fn 278 [] []:=rfl;have hh:dF [100,97,109,97,103,101] nk=true:=rfl
 refine(zC)<|(zK kE (hfl:=.inr zr)) ?_;refine aL.r0 ii (by simp only[cL,bI,an,aC,m7,m6,↓reduceIte,ac,aj,ap,ad,am,ak,au,bl,kG (l:=nk) [100,97,109,97,103,101],hg,hh];first | done | rfl) ?_;refine(zB)<|(El) ?_
 cases d1:decide (day<0);rotate_left
 ·exact(aD d1)<|(cI)<|jZ [.cell 6 52,.tmp 7] (hq:=by rw[hq,ut (.inl (ww d1))];rfl)
 cases d2:decide (40000<day);rotate_left
 ·exact(aD (bu d1 d2))<|(cI)<|jZ [.cell 6 52,.tmp 7] (hq:=by rw[hq,ut (.inr (ww d2))];rfl)
 have h1:0<=day:=by have:=wt d1;omega
 have h2:day<=40000:=by have:=wt d2;omega
 exact(aD (bu d1 d2))<|(zN)<|(e9 (bu @ae.eq_1 @Cz.eq_1))<|(zK (ON p day))<|(zR)<|jZ [.cell 6 52,.tmp 7] (hq:=by rw[hq,v6 i4];rfl)
def G7(p:aq)(day:Int):PC aa 136 [.ag (ae p),ah [100,97,121,115],ab day] (·=Hg (dq p [100,97,121,115] day)):=by
 have hq:dq p [100,97,121,115] day=if day<0\/40000<day then (((0,0):Int×Int),(13:Int)) else ((gr day p.since,gr day p.since),0):=rfl
 refine pB 32 cp ?_;refine(aD @ae.eq_1) ?_;refine zZ (wV p [100,97,121,115] day) 0 rfl (gw @ae.eq_1) ?_
 (try change aG _ _ _ _ _)
 have hg:getM (ui (.ef)) [100,97,121,115] nk=.fn 279 [] [Cz]:=rfl;have hh:dF [100,97,121,115] nk=true:=rfl
 refine(zC)<|(zK kE (hfl:=.inr zr)) ?_;refine aL.r0 ii (by simp only[cL,bI,an,aC,m7,m6,↓reduceIte,ac,aj,ap,ad,am,ak,au,bl,kG (l:=nk) [100,97,121,115],hg,hh];first | done | rfl) ?_;refine(zB)<|(El) ?_
 cases d1:decide (day<0);rotate_left
 ·exact(aD d1)<|(cI)<|jZ [.cell 6 52,.tmp 7] (hq:=by rw[hq,ut (.inl (ww d1))];rfl)
 cases d2:decide (40000<day);rotate_left
 ·exact(aD (bu d1 d2))<|(cI)<|jZ [.cell 6 52,.tmp 7] (hq:=by rw[hq,ut (.inr (ww d2))];rfl)
 have h1:0<=day:=by have:=wt d1;omega
 have h2:day<=40000:=by have:=wt d2;omega
 exact(aD (bu d1 d2))<|(zN)<|(e9 (bu @ae.eq_1 @Cz.eq_1))<|(zK (IH p day ⟨h1,h2⟩))<|(zR)<|jZ [.cell 6 52,.tmp 7] (hq:=by rw[hq,v6 i4];rfl)
def G8(p:aq)(day:Int):PC aa 136 [.ag (ae p),ah [97,103,101],ab day] (·=Hg (dq p [97,103,101] day)):=by
 have hq:dq p [97,103,101] day=if day<0\/40000<day then (((0,0):Int×Int),(13:Int)) else ((gr day p.made,gr day p.made),0):=rfl
 refine pB 32 cp ?_;refine(aD @ae.eq_1) ?_;refine zZ (wV p [97,103,101] day) 0 rfl (gw @ae.eq_1) ?_
 (try change aG _ _ _ _ _)
 have hg:getM (ui (.ef)) [97,103,101] nk=.fn 280 [] [Cz]:=rfl;have hh:dF [97,103,101] nk=true:=rfl
 refine(zC)<|(zK kE (hfl:=.inr zr)) ?_;refine aL.r0 ii (by simp only[cL,bI,an,aC,m7,m6,↓reduceIte,ac,aj,ap,ad,am,ak,au,bl,kG (l:=nk) [97,103,101],hg,hh];first | done | rfl) ?_;refine(zB)<|(El) ?_
 cases d1:decide (day<0);rotate_left
 ·exact(aD d1)<|(cI)<|jZ [.cell 6 52,.tmp 7] (hq:=by rw[hq,ut (.inl (ww d1))];rfl)
 cases d2:decide (40000<day);rotate_left
 ·exact(aD (bu d1 d2))<|(cI)<|jZ [.cell 6 52,.tmp 7] (hq:=by rw[hq,ut (.inr (ww d2))];rfl)
 have h1:0<=day:=by have:=wt d1;omega
 have h2:day<=40000:=by have:=wt d2;omega
 exact(aD (bu d1 d2))<|(zN)<|(e9 (bu @ae.eq_1 @Cz.eq_1))<|(zK (LU p day ⟨h1,h2⟩))<|(zR)<|jZ [.cell 6 52,.tmp 7] (hq:=by rw[hq,v6 i4];rfl)
def wy(p:aq)(cur:List Nat)(day:Int):PC aa 136 [.ag (ae p),ah cur,ab day] (·=Hg (dq p cur day)):=by
 by_cases c0:cur=[107,109]
 ·subst c0;exact G4 p day
 by_cases c1:cur=[99,121,99,108,101,115]
 ·subst c1;exact G5 p day
 by_cases c2:cur=[100,97,109,97,103,101]
 ·subst c2;exact G6 p day
 by_cases c3:cur=[100,97,121,115]
 ·subst c3;exact G7 p day
 by_cases c4:cur=[97,103,101]
 ·subst c4;exact G8 p day
 have hq:dq p cur day=((0,0),15):=by
  unfold dq;simp only[c0,c1,c2,c3,c4,if_false]
 refine pB 32 cp ?_;refine(aD @ae.eq_1) ?_;refine zZ (wV p cur day) 0 rfl (gw @ae.eq_1) ?_
 (try change aG _ _ _ _ _)
 have hk:nk.map (·.1)=[[107,109],[99,121,99,108,101,115],[100,97,109,97,103,101],[100,97,121,115],[97,103,101]]:=rfl
 have hh:dF cur nk=false:=by
  cases h:dF cur nk
  ·rfl
  ·rw[kV,hk] at h;simp[c0,c1,c2,c3,c4] at h
 have hg:getM (ui (.ef)) cur nk=ui (.ef):=yq hh
 refine(zC)<|(zK kE (hfl:=.inr zr)) ?_;refine aL.r0 ii (by simp only[cL,bI,an,aC,m7,m6,↓reduceIte,ac,aj,ap,ad,am,ak,au,bl,kG (l:=nk) cur,hg,hh];first | done | rfl) ?_;exact(zB)<|(w6)<|(zV)<|jZ [.cell 6 52,.tmp 7] (hq:=by rw[hq];rfl)
def Nx:Rz ps (nQ 0 [] ps):=Cs ge (Ek ps)
def D9(ps:List aq)(part:List Nat)(hlen:ps.length<=1000000):PC aa 58 [.ag [an 14 ps ae],ah part] (·=ah (Kq ps part)):=by
 refine pB 30 Tryz.func58 ?_;have hof:=rJ ps hlen;unfold Cf at hof
 refine(zV) ?_;refine zZ [(1,ah part),(2,.ip [an 14 ps ae])] 0 rfl (gw @an.eq_1)<|zA [(1,ah part),(2,.ip [an 14 ps ae])] [] zH<|(zC)<|(zK hof (hfl:=.inr zr))<|(zR) ?_;refine zZ [(1,ah part),(2,.ip [an 14 ps ae]),(5,.ip [an 14 ps ae,lU AV.str ab (nQ 0 [] ps)])] 0 rfl (gw @an.eq_1)<|zA [(1,ah part),(2,.ip [an 14 ps ae]),(5,.ip [an 14 ps ae,lU AV.str ab (nQ 0 [] ps)])] [] zH<|(zV)<|(zs) ?_;refine Ho ps (λk (pt:List Nat)=>Kq ps part=qK ps (ps.length-k) pt) (λk pt=>[(1,ah pt),(2,.ip [an 14 ps ae]),(5,.ip [an 14 ps ae,lU AV.str ab (nQ 0 [] ps)]),(12,ab ps.length),(13,ab k)]) (λk pt=>[]) (part) zH ii ?_;intro k pt hk hall;refine zT ps k ?_ ?_;rintro rfl;rotate_left;intro x hx hlt;rotate_left
 ·exact(gg)<|(zV)<|zo [.tmp 4] (hq:=by rw[hall,ck];rfl)
 have hget:=na ps (nQ 0 [] ps) pt Nx;rw[La] at hget
 have hstep:qK ps (ps.length-k) pt=match da ps pt with
  | none=>[]
  | some p=>if p.br=[] then pt else qK ps (ps.length-(k+1)) p.br:=by
  rw[show ps.length-k=ps.length-(k+1)+1 by omega];rfl
 refine(gA)<|(zC) ?_;refine aL.k ii rfl rfl ii rfl zc (hget) (zw) (.inr (cu.refl (by cases da ps pt<;>rfl))) ?_
 cases hf:da ps pt with
 | none=>
  rw[hf] at hstep
  exact(cP (cJ @iW.eq_1 @ae.eq_1 @aq.zero.eq_1))<|(w6)<|(zV)<|zo [.tmp 4] (hq:=by rw[hall,hstep])
 | some p=>
  rw[hf] at hstep
  refine(cP (bu @iW.eq_1 @ae.eq_1))<|(El) ?_
  cases hi:decide (p.br=[])
  ·rw[show(match some p with | none=>[] | some p=>if p.br=[] then pt else qK ps (ps.length-(k+1)) p.br)=qK ps (ps.length-(k+1)) p.br from v6 (wt hi)] at hstep
   refine(aD hi)<|(lj)<|(aD (zi hlt hlen)) ?_;refine w8 hlt (p.br) zH (by rw[hall,hstep])
  ·rw[show(match some p with | none=>[] | some p=>if p.br=[] then pt else qK ps (ps.length-(k+1)) p.br)=pt from ut (ww hi)] at hstep
   exact(aD hi)<|(cI)<|zo [.tmp 4] (hq:=by rw[hall,hstep])
def lI(d:List Nat->Bool)(l:List (List Nat)):List (List Nat):=l.filter λx=>!d x
def BD{d:List Nat->Bool}{l:List (List Nat)}(h:∀x∈l,d x=false):lI d l=l:=by
 unfold lI;rw[el];intro x hx;rw[h x hx];rfl
def yC{d:List Nat->Bool}{l:List (List Nat)}{j:Nat}{x:List Nat}(h:l[j]?=some x):lI d (l.take (j+1))=lI d (l.take j)++(if d x=true then [] else [x]):=by
 unfold lI;rw[cM h,ey];cases hd:d x<;>simp[hd]
def zx(l:List (List Nat)):(l.flatMap (aH ah)).length=l.length:=Qn l
def Kb:∀n,(rep [AV.str []] n).map SV.a=(dd n ([]:List Nat)).flatMap (aH ah)
 | 0=>rfl
 | n+1=>by rw[rep,ct,Kb n,List.replicate_succ,flatMap_cons];rfl
def BX:∀n,(rep [AV.str []] n).all jU=true
 | 0=>rfl
 | n+1=>by rw[rep,dv,BX n];rfl
def N0(l:List (List Nat))(i:Nat):(l.flatMap (aH ah)).take i=(l.take i).flatMap (aH ah):=by
 rw[rC,rC,List.map_take]
def Gv(g:FuncId)(caps:List SV)(hg:bR caps=true)(d:List Nat->Bool)(hp:∀x,PC aa g ([ah x]++caps) (·=ai (d x)))(l:List (List Nat))(hlen:l.length<=100000):
 SC aa 224 [.buf 0 l.length 1 none,.fn g [] caps] [.cells (l.flatMap (aH ah))] [] (λr S'=>r=.buf 0 (lI d l).length 1 none/\S'=[.cells ((lI d l++dd (l.length-(lI d l).length) []).flatMap (aH ah))]):=by
 have hidx:=qP (l:=l) d (fid:=g) (first:=[]) (cap:=caps) i4 (λx hx=>hp x) ⟨rfl,hg⟩;have hkc:∀(o:Nat) (l:List (List Nat)),(l.flatMap (aH ah)).map (aM o)=l.flatMap (aH ah):=λo l=>bx (enc:=aH ah) gc o l;have hk2:∀o:Nat,caps.map (aM o)=caps:=λo=>bQ hg;have hn2:∀o:Nat,eI o caps=false:=λo=>cg hg
 refine OE 42 func224 ?_;refine(aD (bu hk2 hn2))<|(e9 (bu hk2 hn2))<|(zK hidx (hwk:=.cons (.buf rfl (by rw[ek (enc:=aH ah) (e:=1) gc];exact cu.refl (aE (λ_=>rfl) l)) (by rw[aU (enc:=aH ah) (e:=1) gc];exact ay _)) (.cons (.fn .nil (cu.refl hg)) .nil)))<|(cP (bu hk2 hn2)) ?_
 by_cases hno:fO d l = -1
 ·have hall:=By hno;rw[hno]
  refine(w6)<|(zV)<|(zE) ?_;exact zP [.tmp 4] (hq:=by (try simp only[eC,bJ]);first | done | (rw[BD hall,ck,List.replicate_zero,a9];first | exact⟨rfl,rfl⟩ | exact⟨trivial,rfl⟩ | exact⟨rfl,trivial⟩ | exact⟨trivial,trivial⟩))
 obtain⟨k,x0,hk,hx0,hd0,hbef⟩:=Bx hno;rw[hk];have hkl:k<l.length:=bq hx0
 refine(aD (show decide ((k:Int) = -1)=false by simp only[wn];omega))<|(zN)<|(aD (Ct (show -9223372036854775808<=(k:Int)+1/\(k:Int)+1<=9223372036854775807 from⟨by omega,by omega⟩))) ?_
 have hst:lI d (l.take (k+1))=l.take k:=by
  rw[yC hx0,ut hd0,a9];refine BD λx hx=>?_;obtain⟨i,hi⟩:=mem_iff_getElem?.1 hx
  have hik:i<k:=by
   have:=bq hi;rw[a7] at this;omega
  rw[c6,ut hik] at hi;exact hbef i x hik hi
 (repeat refine aG.seq ?_)
 refine aG.block (aG.loop (λm st=>∃(j i:Nat) (q:List (List Nat)),(i<j/\j<=l.length/\q.length=l.length)/\(q.take i=lI d (l.take j)/\q.drop j=l.drop j)/\l.length-j=m/\st=⟨[(0,.buf 0 l.length 1 none),(1,.fn g [] caps),(5,qD i),(6,qD j),(1000000,.ptr 0 0)],42,[.cells (q.flatMap (aH ah))],[]⟩) (l.length-(k+1)) (cf @fF) ⟨k+1,k,l,⟨be _,hkl,rfl⟩,⟨hst.symm,rfl⟩,rfl,rfl⟩ (by rintro m st ⟨j,i,q,_,_,_,rfl⟩;rfl) ?_);rintro m st ⟨j,i,q,⟨hij,hjl,hql⟩,⟨htk,hdr⟩,rfl,rfl⟩
 have hcl:(q.flatMap (aH ah)).length=l.length:=by rw[zx,hql]
 refine(zV) ?_;by_cases hlt:j<l.length;rotate_left
 ·rw[show decide ((j:Int)<(l.length:Int))=false by simp only[wn];omega]
  obtain rfl:j=l.length:=by omega
  rw[bb] at htk;refine(gg) ?_
  have hkl2:(lI d l).length=i:=by rw[<-htk,a7];omega
  have hrest:(q.flatMap (aH ah)).take i++((rep [AV.str []] (l.length-i)).map SV.a++(q.flatMap (aH ah)).drop (i+(l.length-i)))=(lI d l++dd (l.length-(lI d l).length) []).flatMap (aH ah):=by
   rw[hkl2,Kb,N0,htk,a5 (by rw[hcl];omega),a9,bi]
  refine(aD (Hm (KI (show i<=l.length by omega)) (show ¬(l.length-i=0) by omega) @bk (show i+(l.length-i)<=l.length by omega) hcl @BX hrest))<|(aD (bu (RJ (show i<=l.length by omega)) @Nat.sub_zero))<|(zE) ?_;exact zP [.tmp 4] (hq:=by (try simp only[eC,bJ]);first | done | (rw[hkl2];first | exact⟨rfl,rfl⟩ | exact⟨trivial,rfl⟩ | exact⟨rfl,trivial⟩ | exact⟨trivial,trivial⟩))
 rw[show decide ((j:Int)<(l.length:Int))=true by simp only[wp];omega];obtain⟨x,hx⟩:∃x,l[j]?=some x:=⟨l[j],jp hlt⟩
 have hqx:q[j]?=some x:=by
  have:(q.drop j)[0]?=(l.drop j)[0]?:=by rw[hdr]
  rw[c5,c5,ba] at this;rw[this,hx]
 have hdr2:q.drop (j+1)=l.drop (j+1):=by
  have:=rc (List.drop 1) hdr;rw[fm,fm] at this;exact this
 have hsn:=yC (d:=d) hx;have ax:=Sb (c:=ah) hqx;have hpx:=hp x
 refine(gA)<|(aD (uP hlt hcl @bk (show j+1<=l.length by omega) ax hkc))<|(zC)<|(zK hpx (hwk:=.cons (.a _) (cu.refl hg))) ?_
 cases hd:d x
 ·have hil:i<q.length:=by omega
  have s1:=N1 (c:=ah) (l:=q) (i:=i) x hil;rw[hd,v6 g9] at hsn
  refine(zR)<|(zY)<|(aD (lk (show i<l.length by omega) hcl @bk (show i+1<=l.length by omega) s1))<|(aD (Ct (show -9223372036854775808<=(i:Int)+1/\(i:Int)+1<=9223372036854775807 from⟨by omega,by omega⟩)))<|(aD (Ct (show -9223372036854775808<=(j:Int)+1/\(j:Int)+1<=9223372036854775807 from⟨by omega,by omega⟩))) ?_;refine⟨l.length-(j+1),_,by omega,(cf @fF),j+1,i+1,q.set i x,⟨by omega,by omega,by rw[dC,hql]⟩,⟨?_,?_⟩,rfl,rfl⟩
  ·rw[hsn,<-htk,b9,ut hil,e6,a7,cn i4,List.take_take,Nat.min_eq_right i4,show i+1-i=1 by omega];rfl
  ·rw[List.drop_set,ut i4];exact hdr2
 ·rw[hd,ut rfl,a9] at hsn
  refine(zR)<|(zN)<|(aD (Ct (show -9223372036854775808<=(j:Int)+1/\(j:Int)+1<=9223372036854775807 from⟨by omega,by omega⟩))) ?_;exact⟨l.length-(j+1),_,by omega,(cf @fF),j+1,i,q,⟨by omega,by omega,hql⟩,⟨by rw[hsn,htk],hdr2⟩,rfl,rfl⟩
abbrev AH(e:aY):SV:=.ip [ab e.op,ah e.name,ah e.value,ab e.n,ab e.extra,.sl e.kids.length 6 (e.kids.flatMap aZ)]
def Ai(ps:List aq)(day:Int)(name kind:List Nat)(hlen:ps.length<=1000000):PC aa 225 [ah name,.ip [an 14 ps ae,ab day],.ip [ah kind]] (·=ai (!(decide ((dL ps name).kind=kind)))):=by
 have hf:=iB ps name hlen;refine pB 18 Tryz.func225 ?_
 have ho:∃b,iW ae aq.zero (da ps name)=.cx [.ag (ae (dL ps name)),ai b]:=by
  unfold dL
  cases da ps name with
  | none=>exact⟨false,rfl⟩
  | some p=>exact⟨true,rfl⟩
 obtain⟨b,ho⟩:=ho;rw[ho] at hf;generalize dL ps name=p at hf
 exact(jr)<|(zK hf (hfl:=.inr zr))<|(cP @ae.eq_1)<|(zV)<|zo [.tmp 4]
def LX(x:bN)(e:aY):PC aa 141 [.ag (aJ x),AH e] (·=ai (decide (x.key=e.name))):=by
 refine pB 9 Tryz.func141 ?_;exact(aD @aJ.eq_1)<|(zV)<|zo [.tmp 3]
def IP(q:aq)(part:List Nat)(e:aY):PC aa 142 [.ag (ae q),.ip [ah part],AH e] (·=ai (decide (q.br=part)&&(decide (q.slot=e.name)&&decide (q.kind=e.value)))):=by
 refine pB 23 Tryz.func142 ?_;refine(aD @ae.eq_1) ?_;cases g1:decide (q.br=part)
 ·exact(aD g1)<|zo [.tmp 4]
 cases g2:decide (q.slot=e.name)
 ·exact(aD (bu g1 g2))<|zo [.tmp 4]
 ·exact(aD (bu g1 g2))<|zo [.tmp 4]
def DR{l:List (bN)}(p:bN->Bool)(hlen:l.length<=1000000)(hp:∀x∈l,PC aa fid ((first++[.ag (aJ x)])++cap) (·=ai (p x)))(hg:bR first=true/\bR cap=true):PC aa 223 [an 2 l aJ,.fn fid first cap] (·=ab (fO p l)):=by
 refine pB 19 Tryz.func223 ?_;refine(aD @an.eq_1)<|(zV)<|(zs) ?_;refine zL l (λk=>∀(i:Nat) y,i<k->l[i]?=some y->p y=false) (λk=>[(0,.sl l.length 2 (l.flatMap aJ)),(1,.fn fid first cap),(7,ab l.length),(8,ab k)]) (λk=>[]) zH zp ?_;intro k hk hall;refine zT l k ?_ ?_;rintro rfl;rotate_left;intro x hx hlt;rotate_left
 ·exact(gg)<|(zV)<|zo [.tmp 4] (hq:=by rw[ib hall])
 ·refine(gA)<|(zV)<|(e9 (cJ hlt (aQ (e:=2) (enc:=aJ) gc hx) @aJ.eq_1))<|(zK (hp x (mem_iff_getElem?.2 ⟨k,hx⟩)) (hwk:=((cu.refl hg.1).app zr).app (cu.refl hg.2))) ?_;refine aL.nil ?_
  change aG _ _ _ _ _;cases hpx:p x
  ·refine(zN)<|(aD (zi hlt hlen)) ?_;refine zX hlt zH ?_
   intro i y hi hy;by_cases hik:i=k
   ·subst hik;rw[hx] at hy;cases hy;exact hpx
   ·exact hall i y i4 hy
  ·exact(cI)<|zo [.tmp 4] (hq:=by rw[lT hx hpx hall])
def DF{l:List (bN)}(p:bN->Bool)(hlen:l.length<=1000000)(hp:∀x∈l,PC aa fid ((first++[.ag (aJ x)])++cap) (·=ai (p x)))(hg:bR first=true/\bR cap=true):PC aa 140 [an 2 l aJ,.fn fid first cap] (·=ai (l.any p)):=by
 refine pB 9 Tryz.func140 ?_;exact(jr)<|(zK (DR p hlen hp hg) (hwk:=.cons (Wk.sl _ _ _) (.cons (.fn (cu.refl hg.1) (cu.refl hg.2)) .nil)))<|(zR)<|zo [.tmp 4] (hq:=by rw[nB])
def QA(a b:bN):fJ eE [AV.str a.key,.str a.value] [AV.str b.key,.str b.value]=(decide (a.key=b.key)&&decide (a.value=b.value)):=by
 simp[fJ,eE,xn]
def Gz(a b:bN):dk aa .eql 198 (.agg [.str a.key,.str a.value]) (.agg [.str b.key,.str b.value])=some (.bool (decide (a.key=b.key)&&decide (a.value=b.value))):=
 sV (ks:=[.s,.s]) zW zW (by simp only[aC,m6]) rfl rfl (QA a b)
def Ae(l:List bN)(s:bN)(hlen:l.length<=1000000):PC aa 222 [an 2 l aJ,.ag (aJ s)] (·=ab (fO (λx=>decide (s.key=x.key)&&decide (s.value=x.value)) l)):=by
 refine pB 19 Tryz.func222 ?_;refine(aD @aJ.eq_1) ?_;refine zZ [(0,an 2 l aJ),(3,.ip (aJ s))] 0 rfl (gw (bu @an.eq_1 @aJ.eq_1))<|zA [(0,an 2 l aJ),(3,.ip (aJ s))] [] zH<|(zV)<|(zs) ?_;refine zL l (λk=>∀(i:Nat) y,i<k->l[i]?=some y->(decide (s.key=y.key)&&decide (s.value=y.value))=false) (λk=>[(0,an 2 l aJ),(3,.ip (aJ s)),(7,ab l.length),(8,ab k)]) (λk=>[]) zH zp ?_;intro k hk hall;refine zT l k ?_ ?_;rintro rfl;rotate_left;intro x hx hlt;rotate_left
 ·exact(gg)<|(zV)<|zo [.tmp 4] (hq:=by rw[ib hall])
 ·have heq:=Gz s x
  refine(gA)<|(zV)<|(zs) ?_;refine nh [0,0,0,6,14,31] ?_;refine(Hp (gm hlt (aQ (e:=2) (enc:=aJ) gc hx) @aJ.eq_1 heq))<|(zM) ?_
  cases hpx:(decide (s.key=x.key)&&decide (s.value=x.value))
  ·refine(zN)<|(aD (zi hlt hlen)) ?_;refine zX hlt zH ?_
   intro i y hi hy;by_cases hik:i=k
   ·subst hik;rw[hx] at hy;cases hy;exact hpx
   ·exact hall i y i4 hy
  ·exact(cI)<|zo [.tmp 4] (hq:=by rw[lT (p:=λx=>decide (s.key=x.key)&&decide (s.value=x.value)) hx hpx hall])
def um(l:List bN)(s:bN)(hlen:l.length<=1000000):PC aa 139 [an 2 l aJ,.ag (aJ s)] (·=ai (l.any λx=>decide (x.key=s.key)&&decide (x.value=s.value))):=by
 have he:(l.any λx=>decide (x.key=s.key)&&decide (x.value=s.value))=l.any λx=>decide (s.key=x.key)&&decide (s.value=x.value):=by
  congr 1;funext x;simp only[eq_comm]
 rw[he];have hi:=Ae l s hlen;refine pB 9 Tryz.func139 ?_;rw[show aJ s=[ah s.key,ah s.value] from rfl] at hi ⊢
 exact(jr)<|(zK hi)<|(zR)<|zo [.tmp 4] (hq:=by rw[nB])
def DI(g:FuncId)(caps:List SV)(hg:bR caps=true)(d:List Nat->Bool)(hp:∀x,PC aa g ([ah x]++caps) (·=ai (d x))):PC aa 224 [aR,.fn g [] caps] (·=aR):=by
 have hidx:=qP (l:=[]) d (fid:=g) (first:=[]) (cap:=caps) ge (λx hx=>hp x) ⟨rfl,hg⟩;rw[show fO d [] = -1 from rfl] at hidx
 refine pB 42 func224 ?_;exact(jr)<|(zK hidx (hwk:=.cons (.nil 1) (.cons (.fn .nil (cu.refl hg)) .nil)))<|(zR)<|(w6)<|(zV)<|zo [.tmp 4]
def H4(ps:List aq)(part kind:List Nat):lI (λn=>!(decide ((dL ps n).kind=kind))) (fP ps part)=ic ps part kind:=by
 unfold lI ic;simp only[not_not]
def A2(ps:List aq)(day:Int)(part kind:List Nat)(hlen:ps.length<=100000):PC aa 143 [.ag [an 14 ps ae,ab day],ah part,ah kind] (·=an 1 (ic ps part kind) (aH ah)):=by
 have hin:=qN ps part hlen;have hil:=mK ps part;rw[<-H4];have hd:=λn=>Ai ps day n kind i4;generalize hdd:(λn=>!(decide ((dL ps n).kind=kind)))=d at hd ⊢
 have hd:∀n,PC aa 225 ([ah n]++[.ip [an 14 ps ae,ab day],.ip [ah kind]]) (·=ai (d n)):=by rw[<-hdd];exact λn=>Ai ps day n kind i4
 clear hdd;generalize fP ps part=L at hin hil
 refine pB 13 Tryz.func143 ?_;refine(zV) ?_;refine zZ [(1,ah part),(3,.ip [an 14 ps ae,ab day]),(5,.ptr 1 0)] 0 rfl (gw @an.eq_1)<|zZ [(1,ah part),(3,.ip [an 14 ps ae,ab day]),(5,.ip [ah kind])] 1 rfl (gw @an.eq_1)<|zA [(1,ah part),(3,.ip [an 14 ps ae,ab day]),(5,.ip [ah kind])] [] zH ?_
 by_cases hL:L=[]
 ·subst hL;rw[show cr 0 1 ([]:List (List Nat)).length=aR from rfl,gU] at hin
  refine(zC) ?_;refine zS [] trivial hin ?_;exact(zQ)<|(zK (DI 225 [.ip [an 14 ps ae,ab day],.ip [ah kind]] rfl d hd))<|(zR)<|zo [.tmp 6] (r:=.sl 0 1 []) (hw:=Wk.nil _)
 ·have hL0:¬L.length=0:=λh=>hL (t8 h);rw[eo (o:=0) (e:=1) hL0,fU hL] at hin;have hrc:∀(r:Nat->Nat) (l:List (List Nat)),mP r (l.flatMap (aH ah))=l.flatMap (aH ah):=λr l=>bp (aE (λ_=>rfl) l);have hbc:∀(B:Nat) (l:List (List Nat)),iI B (l.flatMap (aH ah))=true:=λB l=>bO (aE (λ_=>rfl) l);have hkc:∀(o:Nat) (l:List (List Nat)),(l.flatMap (aH ah)).map (aM o)=l.flatMap (aH ah):=λo l=>bx (enc:=aH ah) gc o l
  refine(zC) ?_;refine zS [] (cJ hrc hbc hkc) hin ?_;refine(zQ) ?_;refine zS [0] (cJ hrc hbc hkc) (Gv 225 [.ip [an 14 ps ae,ab day],.ip [ah kind]] rfl d hd L i4) ?_;exact(cP hkc)<|zo [.tmp 6] (r:=an 1 (lI d L) (aH ah)) (hw:=.buf rfl (by rw[bk,bi,List.take_left'];(exact cu.refl (aE (λ_=>rfl) _));rw[zx]) (by rw[zx,li];omega))
def pT(join:FuncId)(j:Int->Int->Int)(hj:∀a b,PC aa join [ab a,ab b] (·=ab (j a b)))(one:FuncId)(caps:List SV)(hg:bR caps=true)(vals:List Int)(hlen:vals.length<=1000000)(h1:∀(i:Nat) x,vals[i]?=some x->PC aa one ([ab i]++caps) (·=ab x))(first:Int):
 PC aa 131 [.fn join [] [],ab first,ab vals.length,.fn one [] caps] (·=ab (vals.foldl j first)):=by
 refine pB 22 Tryz.func131 ?_;refine(om)<|(zs) ?_;refine Ho vals (λk (acc:Int)=>vals.foldl j first=(vals.drop k).foldl j acc) (λk acc=>[(0,.fn join [] []),(1,ab acc),(3,.fn one [] caps),(10,ab vals.length),(11,ab k)]) (λk acc=>[]) (first) zH ii ?_;intro k acc hk hall;refine zT vals k ?_ ?_;rintro rfl;rotate_left;intro x hx hlt;rotate_left
 ·refine(gg) ?_;rw[cl] at hall
  exact(zV)<|zo [.tmp 8] (hq:=by rw[hall];rfl)
 rw[eV hx,fd] at hall
 refine(gA)<|(jr)<|(zK (h1 k x hx) (hwk:=.cons (.a _) (cu.refl hg)))<|(zQ)<|(zK (hj acc x))<|(zR)<|(aD (zi hlt hlen)) ?_;refine w8 hlt (j acc x) zH hall
abbrev JR(ps:List aq)(day:Int):SV:=.ip [an 14 ps ae,ab day]
def Eo(ps:List aq)(day:Int)(e:aY)(part:List Nat)(v:Int):Prop:=PC aa 59 [.ag [an 14 ps ae,ab day],.ag (aZ e),ah part] (·=ab v)
def vD(ps:List aq)(day:Int)(e:aY)(part:List Nat)(i:Nat)(k:aY)(hk:e.kids[i]?=some k)(v:Int)(ih:Eo ps day k part v):PC aa 132 ([ab i]++[JR ps day,AH e,.ip [ah part]]) (·=ab v):=by
 have hlt:=bq hk;have hxl:((e.kids.flatMap aZ).drop (i*6)).take 6=aZ k:=aQ jk hk;unfold Eo at ih;rw[cz k] at hxl ih
 refine pB 14 Tryz.func132 ?_;refine(zV)<|(zs) ?_;refine nh [0,0,2,0,14,30,0,127,255] ?_;exact(Hp (bu hlt hxl))<|(xJ (ih))<|(qg)<|(zM)<|zo [.tmp 5]
def Ab(ps:List aq)(day:Int)(e:aY)(names:List (List Nat))(i:Nat)(nm:List Nat)(hi:names[i]?=some nm)(k:aY)(hk:e.kids[0]?=some k)(v:Int)(ih:Eo ps day k nm v):PC aa 144 ([ab i]++[JR ps day,AH e,.ip [an 1 names (aH ah)]]) (·=ab v):=by
 have hlt:=bq hi;have hlk:=bq hk
 have hxl:(e.kids.flatMap aZ).take 6=aZ k:=by have:=aQ jk hk;simpa using this
 have hnl:=aQ (e:=1) (enc:=aH ah) gc hi;unfold Eo at ih;rw[cz k] at hxl ih
 refine pB 16 Tryz.func144 ?_;refine(zV)<|(zs) ?_;refine nh [0,0,2,6,14,0,0,96,224,511,1023] ?_;exact(Hp (TL hlt hlk hxl hnl @aH.eq_1 @Nat.zero_mul @drop_zero.{0} (show Ih (.a (.int .i64 0))=some 0 from rfl)))<|(xJ (ih))<|(qg)<|(zM)<|zo [.tmp 5]
section
variable {A:List Nat->Bool}
def nt(A:List Nat->Bool):List Nat->Bool:=λn=>!(A n)
end
section
variable {A:List Nat->Bool}
def K8{n:List Nat}{p:aq}(h:da ps n=some p):p∈ps/\p.name=n:=by
 unfold da at h;exact⟨b7 h,by simpa using List.find?_some h⟩
end
def iZ(ps:List aq)(day:Int)(e:aY)(part:List Nat):iP ps day e part=
 if e.op=2 then Lt ((Cq ps day e.kids part).headD 0)
 else if e.op=3 then (Cq ps day e.kids part).foldl Cp 2
 else if e.op=4 then (Cq ps day e.kids part).foldl Qx 0
 else if e.op=10 then (Pg ps day e.kids (ic ps part e.name)).foldl Cp 2
 else if e.op=11 then (Pg ps day e.kids (ic ps part e.name)).foldl Qx 0
 else Rc ps day e.op e.name e.value e.n e.extra part:=by
 obtain⟨op,name,value,n,extra,kids⟩:=e;rw[iP];rfl
def xe(ps:List aq)(day:Int)(part:List Nat):∀l:List aY,Cq ps day l part=l.map λk=>iP ps day k part
 | []=>rfl
 | k::l=>by rw[Cq,xe ps day part l,List.map_cons]
variable{day:Int}{part:List Nat}
def RB(h:e.op=1):iP ps day e part=2:=by
 rw[iZ,h];rfl
def RC{k:aY}(h:e.op=2)(hk:e.kids[0]?=some k):iP ps day e part=Lt (iP ps day k part):=by
 rw[iZ,h,xe]
 cases hl:e.kids with
 | nil=>rw[hl] at hk;cases hk
 | cons a l=>rw[hl] at hk;cases hk;rfl
def RD(h:e.op=3):iP ps day e part=(e.kids.map λk=>iP ps day k part).foldl Cp 2:=by
 rw[iZ,h,xe];rfl
def RE(h:e.op=4):iP ps day e part=(e.kids.map λk=>iP ps day k part).foldl Qx 0:=by
 rw[iZ,h,xe];rfl
def ME(h:e.op=5):iP ps day e part=if (dq (dL ps part) e.name day).2=0 then Lt (oN (dq (dL ps part) e.name day).1.1 (dq (dL ps part) e.name day).1.2 (e.n+e.extra)) else 0:=by
 rw[iZ,h];rfl
def MF(h:e.op=6):iP ps day e part=if (dq (dL ps part) e.name day).2=0 then oN (dq (dL ps part) e.name day).1.1 (dq (dL ps part) e.name day).1.2 e.n else 0:=by
 rw[iZ,h];rfl
def RF(h:e.op=7):iP ps day e part=Ej ((dL ps part).props.any λx=>decide (x.key=e.name)&&decide (x.value=e.value)):=by
 rw[iZ,h];rfl
def RG(h:e.op=8):iP ps day e part=Ej ((dL ps part).props.any λx=>decide (x.key=e.name)):=by
 rw[iZ,h];rfl
def RH(h:e.op=9):iP ps day e part=Ej (ps.any λq=>decide (q.br=part)&&(decide (q.slot=e.name)&&decide (q.kind=e.value))):=by
 rw[iZ,h];rfl
def Ph{k:aY}(h:e.op=10)(hk:e.kids[0]?=some k):iP ps day e part=((ic ps part e.name).map λn=>iP ps day k n).foldl Cp 2:=by
 rw[iZ,h]
 cases hl:e.kids with
 | nil=>rw[hl] at hk;cases hk
 | cons a l=>rw[hl] at hk;cases hk;rfl
def Pj{k:aY}(h:e.op=11)(hk:e.kids[0]?=some k):iP ps day e part=((ic ps part e.name).map λn=>iP ps day k n).foldl Qx 0:=by
 rw[iZ,h]
 cases hl:e.kids with
 | nil=>rw[hl] at hk;cases hk
 | cons a l=>rw[hl] at hk;cases hk;rfl
def Pk(h:e.op=12):iP ps day e part=Ej (decide (e.n<=((ic ps part e.name).length:Int))):=by
 rw[iZ,h];rfl
def yT(h:iF e=true)(ho:e.op=2\/e.op=10\/e.op=11):∃k,e.kids[0]?=some k:=by
 have hl:e.kids.length=1:=by
  unfold iF at h
  rcases ho with o | o | o<;>(unfold SK at h;rw[o] at h;simp[FO] at h;omega)
 cases hk:e.kids with
 | nil=>rw[hk] at hl;cases hl
 | cons a l=>exact⟨a,rfl⟩
def R7(h:iF e=true)(o:e.op=5):0<=e.n/\e.n<=9999999/\0<=e.extra/\e.extra<=9999999:=by
 unfold iF SK at h;rw[o] at h;simp[FO,HZ] at h;omega
def P7(h:iF e=true)(n1:¬e.op=1)(n2:¬e.op=2)(n3:¬e.op=3)(n4:¬e.op=4)(n5:¬e.op=5)(n6:¬e.op=6)(n7:¬e.op=7)(n8:¬e.op=8)(n9:¬e.op=9)(n10:¬e.op=10)(n11:¬e.op=11):e.op=12:=by
 refine Classical.byContradiction λn12=>?_;unfold iF SK at h;simp[n1,n2,n3,n4,n5,n6,n7,n8,n9,n10,n11,n12] at h
abbrev Pq(ps:List aq)(day:Int)(e:aY)(part:List Nat):List SV:=[JR ps day,AH e,.ip [ah part]]
abbrev wA(ps:List aq)(day:Int)(e:aY)(part:List Nat)(p:aq):Fm:=[(3,JR ps day),(4,AH e),(5,.ip [ah part]),(7,.ip (ae p)),(9,.fn 131 [] []),(10,.fn 132 [] (Pq ps day e part)),(11,ab e.n),(29,ab e.op)]
def B7(ps:List aq)(day:Int)(hlen:ps.length<=100000)(hps:∀p∈ps,p.props.length<=1000000):∀(d:Nat) (e:aY) (part:List Nat),SizeOf.sizeOf e<d->gp e->(fz e).all iF=true->Eo ps day e part (iP ps day e part)
 | 0,e,_,hd,_,_=>un hd (cc _)
 | d+1,e,part,hd,he,hv=>by
  have hf:=iB ps part i4
  have ho:∃b,iW ae aq.zero (da ps part)=.cx [.ag (ae (dL ps part)),ai b]:=by
   unfold dL
   cases da ps part with
   | none=>exact⟨false,rfl⟩
   | some p=>exact⟨true,rfl⟩
  obtain⟨b,ho⟩:=ho;rw[ho] at hf
  have hpp:(dL ps part).props.length<=1000000:=by
   unfold dL
   cases hm:da ps part with
   | none=>exact ce _
   | some p=>exact hps p (K8 hm).1
  rw[BQ,ca] at hv;have ih:∀k∈e.kids,∀nm,Eo ps day k nm (iP ps day k nm):=λk hk nm=>B7 ps day hlen hps d k nm (by have:=yD hk;omega) (he.Td.2 k hk) (all_eq_true.1 hv.2 k hk);obtain⟨p,hp⟩:∃p,p=dL ps part:=⟨_,rfl⟩;rw[<-hp] at hf hpp;refine pB 137 Tryz.func59 ?_;rw[cz e]
  refine(zV) ?_;refine zZ [(3,JR ps day),(4,.ptr 1 0),(5,.ptr 2 0)] 0 rfl (gw @an.eq_1)<|zZ [(3,JR ps day),(4,AH e),(5,.ptr 2 0)] 1 rfl (gw @an.eq_1)<|zZ [(3,JR ps day),(4,AH e),(5,.ip [ah part])] 2 rfl (gw @an.eq_1)<|zA [(3,JR ps day),(4,AH e),(5,.ip [ah part])] [] zH<|(zC)<|(zK hf (hfl:=.inr zr))<|(cP @ae.eq_1) ?_;refine zZ [(3,JR ps day),(4,AH e),(5,.ip [ah part]),(7,.ip (ae p))] 0 rfl (gw (bu @an.eq_1 @ae.eq_1))<|zA [(3,JR ps day),(4,AH e),(5,.ip [ah part]),(7,.ip (ae p))] [] zH<|(om)<|(om)<|zA (wA ps day e part p) [] zH ?_
  (repeat (first | refine aG.seq ?_ | refine aG.block ?_))
  cases o1:decide (e.op=1);rotate_left
  ·have p1:=ww o1
   refine(aD o1)<|(zY) ?_;refine aG.exit ?_
   (try simp only[eN,c8,bW,bK])
   (try change aG _ _ _ _ _)
   exact(zV)<|zo [.tmp 6] (hq:=by rw[RB p1])
  have n1:=wt o1
  refine(aD o1)<|(zN) ?_
  (try change aG _ _ _ _ _)
  (repeat (first | refine aG.seq ?_ | refine aG.block ?_))
  cases o2:decide (e.op=2);rotate_left
  ·have p2:=ww o2
   refine(aD o2)<|(zY) ?_;refine aG.exit ?_
   (try simp only[eN,c8,bW,bK])
   (try change aG _ _ _ _ _)
   obtain⟨k,hk⟩:=yT hv.1 (.inl p2);have hkp:PC aa 132 ([ab 0]++Pq ps day e part) (·=ab (iP ps day k part)):=vD ps day e part 0 k hk _ (ih k (al hk) part)
   exact(zC)<|(zK hkp (hwk:=cu.refl rfl))<|(zQ)<|(zK (Cc (iP ps day k part)))<|(zR)<|zo [.tmp 6] (hq:=by rw[RC p2 hk])
  have n2:=wt o2
  refine(aD o2)<|(zN) ?_
  (try change aG _ _ _ _ _)
  (repeat (first | refine aG.seq ?_ | refine aG.block ?_))
  cases o3:decide (e.op=3);rotate_left
  ·have p3:=ww o3
   refine(aD o3)<|(zY) ?_;refine aG.exit ?_
   (try simp only[eN,c8,bW,bK])
   (try change aG _ _ _ _ _)
   have hfo:=pT 134 Cp B6 132 (Pq ps day e part) rfl (e.kids.map λk=>iP ps day k part) (by rw[af];exact he.Td.1) (λi x hi=>by
    obtain⟨k,hk,rfl⟩:=qw hi
    exact vD ps day e part i k hk _ (ih k (al hk) part)) 2
   rw[af] at hfo
   exact(zC)<|(zK hfo (hwk:=cu.refl rfl))<|(zR)<|zo [.tmp 6] (hq:=by rw[RD p3])
  have n3:=wt o3
  refine(aD o3)<|(zN) ?_
  (try change aG _ _ _ _ _)
  (repeat (first | refine aG.seq ?_ | refine aG.block ?_))
  cases o4:decide (e.op=4);rotate_left
  ·have p4:=ww o4
   refine(aD o4)<|(zY) ?_;refine aG.exit ?_
   (try simp only[eN,c8,bW,bK])
   (try change aG _ _ _ _ _)
   have hfo:=pT 135 Qx GQ 132 (Pq ps day e part) rfl (e.kids.map λk=>iP ps day k part) (by rw[af];exact he.Td.1) (λi x hi=>by
    obtain⟨k,hk,rfl⟩:=qw hi
    exact vD ps day e part i k hk _ (ih k (al hk) part)) 0
   rw[af] at hfo
   exact(zC)<|(zK hfo (hwk:=cu.refl rfl))<|(zR)<|zo [.tmp 6] (hq:=by rw[RE p4])
  have n4:=wt o4
  refine(aD o4)<|(zN) ?_
  (try change aG _ _ _ _ _)
  (repeat (first | refine aG.seq ?_ | refine aG.block ?_))
  cases o5:decide (e.op=5);rotate_left
  ·have p5:=ww o5
   refine(aD o5)<|(zY) ?_;refine aG.exit ?_
   (try simp only[eN,c8,bW,bK])
   (try change aG _ _ _ _ _)
   have h5:=R7 hv.1 p5;refine(aD (Ct (P:=aa) (t:=3) (a:=e.n) (b:=e.extra) i4)) ?_;have hva:=wy p e.name day
   have hvq:dq (dL ps part) e.name day=dq p e.name day:=by rw[hp]
   generalize dq p e.name day=q at hva hvq;obtain⟨⟨v1,v2⟩,cd⟩:=q;unfold Hg at hva
   refine(e9 @ae.eq_1)<|(zK hva (hfl:=.inr zr))<|(zR) ?_
   cases hc:decide (cd=0)
   ·exact(aD hc)<|(cI)<|zo [.tmp 6] (hq:=by rw[ME p5,hvq,v6 (wt hc)])
   exact(aD hc)<|(Ml)<|(zK (qO v1 v2 (e.n+e.extra)))<|(zR)<|(aD (show decide (e.op=6)=false by rw[p5];rfl))<|(Ml)<|(zK (Cc _))<|(zR)<|zo [.tmp 6] (hq:=by rw[ME p5,hvq,ut (ww hc)])
  have n5:=wt o5
  refine(aD o5)<|(zN) ?_
  (try change aG _ _ _ _ _)
  (repeat (first | refine aG.seq ?_ | refine aG.block ?_))
  cases o6:decide (e.op=6);rotate_left
  ·have p6:=ww o6
   refine(aD o6)<|(zY) ?_;refine aG.exit ?_
   (try simp only[eN,c8,bW,bK])
   (try change aG _ _ _ _ _)
   have hva:=wy p e.name day
   have hvq:dq (dL ps part) e.name day=dq p e.name day:=by rw[hp]
   generalize dq p e.name day=q at hva hvq;obtain⟨⟨v1,v2⟩,cd⟩:=q;unfold Hg at hva
   refine(e9 @ae.eq_1)<|(zK hva (hfl:=.inr zr))<|(zR) ?_
   cases hc:decide (cd=0)
   ·exact(aD hc)<|(cI)<|zo [.tmp 6] (hq:=by rw[MF p6,hvq,v6 (wt hc)])
   exact(aD hc)<|(Ml)<|(zK (qO v1 v2 (e.n)))<|(zR)<|(aD (show decide (e.op=6)=true by rw[p6];rfl))<|(cI)<|zo [.tmp 6] (hq:=by rw[MF p6,hvq,ut (ww hc)])
  have n6:=wt o6
  refine(aD o6)<|(zN) ?_
  (try change aG _ _ _ _ _)
  (repeat (first | refine aG.seq ?_ | refine aG.block ?_))
  cases o7:decide (e.op=7);rotate_left
  ·have p7:=ww o7
   refine(aD o7)<|(zY) ?_;refine aG.exit ?_
   (try simp only[eN,c8,bW,bK])
   (try change aG _ _ _ _ _)
   exact(e9 @ae.eq_1)<|(zK (um p.props ⟨e.name,e.value⟩ hpp))<|(zQ)<|(zK (rL _))<|(zR)<|zo [.tmp 6] (hq:=by rw[RF p7,<-hp])
  have n7:=wt o7
  refine(aD o7)<|(zN) ?_
  (try change aG _ _ _ _ _)
  (repeat (first | refine aG.seq ?_ | refine aG.block ?_))
  cases o8:decide (e.op=8);rotate_left
  ·have p8:=ww o8
   refine(aD o8)<|(zY) ?_;refine aG.exit ?_
   (try simp only[eN,c8,bW,bK])
   (try change aG _ _ _ _ _)
   exact(e9 @ae.eq_1)<|(zK (DF (l:=p.props) (λx=>decide (x.key=e.name)) (fid:=141) (first:=[]) (cap:=[AH e]) hpp (λx _=>LX x e) ⟨rfl,rfl⟩))<|(zQ)<|(zK (rL _))<|(zR)<|zo [.tmp 6] (hq:=by rw[RG p8,<-hp])
  have n8:=wt o8
  refine(aD o8)<|(zN) ?_
  (try change aG _ _ _ _ _)
  (repeat (first | refine aG.seq ?_ | refine aG.block ?_))
  cases o9:decide (e.op=9);rotate_left
  ·have p9:=ww o9
   refine(aD o9)<|(zY) ?_;refine aG.exit ?_
   (try simp only[eN,c8,bW,bK])
   (try change aG _ _ _ _ _)
   exact(zC)<|(zK (uk (l:=ps) (λq=>decide (q.br=part)&&(decide (q.slot=e.name)&&decide (q.kind=e.value))) (fid:=142) (first:=[]) (cap:=[.ip [ah part],AH e]) i4 (λx _=>IP x part e) ⟨rfl,rfl⟩))<|(zQ)<|(zK (rL _))<|(zR)<|zo [.tmp 6] (hq:=by rw[RH p9])
  have n9:=wt o9
  refine(aD o9)<|(zN) ?_
  (try change aG _ _ _ _ _)
  (repeat (first | refine aG.seq ?_ | refine aG.block ?_))
  refine aG.exit ?_
  (try simp only[eN,c8,bW,bK])
  (try change aG _ _ _ _ _)
  have hin:=A2 ps day part e.name hlen;have hil:(ic ps part e.name).length<=ps.length:=b0 (bV _ _) (mK ps part);obtain⟨N,hN⟩:∃N,N=ic ps part e.name:=⟨_,rfl⟩;rw[<-hN] at hin hil
  refine(jr)<|(zK hin (hfl:=.inr zr))<|(zR) ?_;refine zZ [(3,JR ps day),(4,AH e),(9,.fn 131 [] []),(16,.ip [an 1 N (aH ah)])] 0 rfl (gw @an.eq_1)<|zA [(3,JR ps day),(4,AH e),(9,.fn 131 [] []),(16,.ip [an 1 N (aH ah)])] [] zH<|(om)<|(zB) ?_
  cases o10:decide (e.op=10);rotate_left
  ·have p10:=ww o10
   refine(aD o10)<|(zY) ?_
   obtain⟨k,hk⟩:=yT hv.1 (.inr (.inl p10))
   have hfo:=pT 134 Cp B6 144 [JR ps day,AH e,.ip [an 1 N (aH ah)]] rfl (N.map λn=>iP ps day k n) (by rw[af];omega) (λi x hi=>by
    obtain⟨nm,hnm,rfl⟩:=qw hi
    exact Ab ps day e N i nm hnm k hk _ (ih k (al hk) nm)) 2
   rw[af] at hfo
   exact(e9 @an.eq_1)<|(zK hfo (hwk:=cu.refl rfl))<|(zR)<|zo [.tmp 6] (hq:=by rw[Ph p10 hk,<-hN])
  have n10:=wt o10
  refine(aD o10)<|(zN) ?_
  cases o11:decide (e.op=11);rotate_left
  ·have p11:=ww o11
   refine(aD o11)<|(zY) ?_
   obtain⟨k,hk⟩:=yT hv.1 (.inr (.inr p11))
   have hfo:=pT 135 Qx GQ 144 [JR ps day,AH e,.ip [an 1 N (aH ah)]] rfl (N.map λn=>iP ps day k n) (by rw[af];omega) (λi x hi=>by
    obtain⟨nm,hnm,rfl⟩:=qw hi
    exact Ab ps day e N i nm hnm k hk _ (ih k (al hk) nm)) 0
   rw[af] at hfo
   exact(e9 @an.eq_1)<|(zK hfo (hwk:=cu.refl rfl))<|(zR)<|zo [.tmp 6] (hq:=by rw[Pj p11 hk,<-hN])
  have n11:=wt o11;have p12:=P7 hv.1 n1 n2 n3 n4 n5 n6 n7 n8 n9 n10 n11
  exact(aD o11)<|(zN)<|(e9 @an.eq_1)<|(zK (rL (decide (e.n<=(N.length:Int)))))<|(zR)<|zo [.tmp 6] (hq:=by rw[Pk p12,<-hN])
def RT(u:Bool)(c:List aV)(dmg:bC):List bB->List aq->List aq×Int
 | [],s=>(s,0)
 | e::r,s=>if (aX c s e).2=0 then RT u c dmg r (if u=true/\e.op=4 then Hf dmg (aX c s e).1 e else (aX c s e).1) else ([],(aX c s e).2)
structure iN where
 name:List Nat
 kind:List Nat
 cond:aY
def bD(r:iN):List SV:=ah r.name::ah r.kind::aZ r.cond
structure wC where
 kind:List Nat
 slot:List Nat
 other:List Nat
 pW:List Nat
 to:Int
def dE(s:wC):List SV:=[ah s.kind,ah s.slot,ah s.other,ah s.pW,ab s.to]
structure ea where
 name:List Nat
 kind:List Nat
 key:List Nat
 after:Int
 within:Int
def bf(d:ea):List SV:=[ah d.name,ah d.kind,ah d.key,ab d.after,ab d.within]
structure qh where
 part:List Nat
 fh:List Nat
 to:Int
def cO(c:qh):List SV:=[ah c.part,ah c.fh,ab c.to]
structure mA where
 id:List Nat
 vehicle:List Nat
 members:List Int
 back:List Int
def bZ(h:mA):List SV:=[ah h.id,ah h.vehicle,an 1 h.members (aH ab),an 1 h.back (aH ab)]
structure dB where
 rules:List iN
 cH:List wC
 bg:List ea
 du:List qh
 aO:List iN
 holds:List mA
def aB(b:dB):List SV:=[an 8 b.rules bD,an 5 b.cH dE,an 5 b.bg bf,an 3 b.du cO,an 8 b.aO bD,an 4 b.holds bZ]
structure aA where
 kind:Int
 part:List Nat
 name:List Nat
 deriving DecidableEq
def aw(f:aA):List SV:=[ab f.kind,ah f.part,ah f.name]
def th(l:List qh)(part fh:List Nat)(day:Int):Bool:=l.any λx=>decide (x.part=part)&&(decide (x.fh=fh)&&decide (day<=x.to))
def rB(c:List aV)(kind name other:List Nat):Bool:=match (dU c kind).bind λk=>pq k.bL name with
 | some s=>decide (0<=fO (λx=>decide (other=x)) s.kinds)&&decide (fO (λx=>decide (other=x)) s.kinds<s.normal)
 | none=>false
def xg(ps:List aq)(p:aq)(slot:List Nat):Bool:=ps.any λx=>decide (x.br=p.br)&&(decide (x.slot=slot)&&decide (x.kind=p.kind))
def kC(c:List aV)(cH:List wC)(ps:List aq)(part:List Nat)(day:Int):Bool:=match da ps part with
 | none=>false
 | some p=>if p.br=[] then true else match da ps p.br with
  | none=>false
  | some h=>rB c h.kind p.slot p.kind||cH.any λs=>(decide (s.kind=h.kind)&&(decide (s.slot=p.slot)&&decide (s.other=p.kind)))&&(decide (day<=s.to)&&(decide (s.pW=[])||xg ps p s.pW))
def rU(d:ea):Bool:=cX d.name&&(cX d.kind&&(cX d.key&&(decide (1<=d.after)&&(decide (d.after<=7)&&(decide (0<=d.within)&&decide (d.within<=40000))))))
def LD(part:List Nat)(day:Int)(e:bB):Bool:=decide (e.part=part)&&decide (e.day<=day)
def Da(d:ea)(l:List bB)(part:List Nat)(day:Int):List Int:=(l.filter λe=>LD part day e&&(decide (e.op=6)&&decide (e.key=d.key))).map bB.day
def qY(d:ea)(l:List bB)(part:List Nat)(day:Int):List Int:=(l.filter λe=>LD part day e&&decide (e.op=d.after)).map bB.day
def qA(d:ea)(notes:List Int)(a:Int×Bool)(n:Int):Int×Bool:=
 if (!(notes.any λm=>decide (n<=m)&&decide (m<=n+d.within))&&(!a.2||decide (n+d.within<a.1)))=true then (n+d.within,true) else a
def lJ(d:ea)(l:List bB)(part:List Nat)(day:Int):Int×Bool:=(qY d l part day).foldl (qA d (Da d l part day)) (0,false)
def O3(c:List aV)(l:List bB)(day:Int):List aq×Int:=if qk c=true then RT false c (.mk 0 0 []) (eL (dV (fe day) l)) [] else ([],1)
def kY(ds:List ea)(c:List aV)(l:List bB)(part:List Nat)(day:Int):List (List Nat×Int):=
 match da (O3 c l day).1 part with
 | none=>[]
 | some p=>if (O3 c l day).2≠0\/p.cN=true then [] else ds.filterMap λd=>if rU d=true/\d.kind=p.kind/\(lJ d l part day).2=true then some (d.name,(lJ d l part day).1) else none
def eJ(ds:List ea)(c:List aV)(l:List bB)(part:List Nat)(day:Int):List (List Nat):=LM (((kY ds c l part day).filter λx=>decide (x.2<day)).map (·.1))
def AP(h:mA):Bool:=h.members.any λm=>!h.back.contains m
def nj(c:List aV)(b:dB)(l:List bB)(ps:List aq)(day:Int)(p:aq):List aA:=
 ((b.rules.filter λr=>decide (r.kind=p.kind)&&(!th b.du p.name r.name day&&!(decide (nV ps r.cond p.name day=2)))).map λr=>⟨1,p.name,r.name⟩)++
 (((b.aO.filter λr=>decide (r.kind=p.kind)&&!(decide (nV ps r.cond p.name day=0))).map λr=>⟨5,p.name,r.name⟩)++
 ((eJ b.bg c l p.name day).map (λn=>⟨3,p.name,n⟩)++
 (if kC c b.cH ps p.name day=true then [] else [⟨2,p.name,p.slot⟩])))
def lz(c:List aV)(b:dB)(l:List bB)(ps:List aq)(vehicle:List Nat)(day:Int)(v:aq):List aA:=
 nj c b l ps day v++(((fP ps vehicle).flatMap λn=>nj c b l ps day (dL ps n))++((b.holds.filter λh=>decide (h.vehicle=vehicle)&&AP h).map λh=>⟨6,vehicle,h.id⟩))
def vZ(ps:List aq)(e:aY)(part:List Nat)(day:Int)(hlen:ps.length<=100000)(hps:∀p∈ps,p.props.length<=1000000)(he:gp e):PC aa 19 [.ag [an 14 ps ae],.ag (aZ e),ah part,ab day] (·=ab (nV ps e part day)):=by
 have hvr:=wZ [114] [107] e ⟨by decide,by decide⟩ ⟨by decide,by decide⟩ he;rw[show(cX [114]&&(cX [107]&&nN e))=nN e from by rw[show cX [114]=true from rfl,show cX [107]=true from rfl];rfl] at hvr;have hro:=D9 ps part i4
 have hak:nN e=true->Eo ps day e part (iP ps day e part):=λh=>by
  unfold nN at h;rw[ca] at h;exact B7 ps day hlen hps _ e part (be _) he h.2
 unfold Eo at hak;unfold nV;refine pB 25 Tryz.func19 ?_;rw[cz e] at hvr hak ⊢
 refine(zV) ?_;refine zZ [(2,ah part),(3,ab day),(4,.ip [an 14 ps ae]),(5,.ptr 1 0)] 0 rfl (gw @an.eq_1)<|zZ [(2,ah part),(3,ab day),(4,.ip [an 14 ps ae]),(5,AH e)] 1 rfl (gw @an.eq_1)<|zA [(2,ah part),(3,ab day),(4,.ip [an 14 ps ae]),(5,AH e)] [] zH<|(zC)<|(zK hvr) ?_
 cases g:nN e
 ·exact(zR)<|(cI)<|zo [.tmp 8] (hq:=by rw[v6 (λh=>bv h.1)])
 refine(zQ)<|(zK hro) ?_
 cases g2:decide (Kq ps part=[]);rotate_left
 ·exact(cP g2)<|(cI)<|zo [.tmp 8] (hq:=by rw[v6 (λh=>h.2 (ww g2))])
 exact(cP g2)<|(Ml)<|(zK (hak g))<|(zR)<|zo [.tmp 8] (hq:=by rw[ut ⟨by trivial,wt g2⟩])
def Hv{α:Type}{p:α->Bool}{l:List α}(h:∀(i:Nat) y,i<l.length->l[i]?=some y->p y=false):l.any p=false:=by
 rw[List.any_eq_false];intro x hx;obtain⟨i,hi⟩:=mem_iff_getElem?.1 hx;rw[h i x (bq hi) hi];decide
def Hu{α:Type}{p:α->Bool}{l:List α}{k:Nat}{x:α}(hx:l[k]?=some x)(hp:p x=true):l.any p=true:=List.any_eq_true.2 ⟨x,al hx,hp⟩
def A9{l:List (qh)}(p:qh->Bool)(hlen:l.length<=1000000)(hp:∀x∈l,PC aa fid ((first++[.ag (cO x)])++cap) (·=ai (p x)))(hg:bR first=true/\bR cap=true):PC aa 60 [an 3 l cO,.fn fid first cap] (·=ai (l.any p)):=by
 refine pB 17 Tryz.func60 ?_;have hn1:=λo:Nat=>cg (o:=o) hg.1;have hn2:=λo:Nat=>cg (o:=o) hg.2
 refine(aD @an.eq_1)<|(zV)<|(zs) ?_;refine zL l (λk=>∀(i:Nat) y,i<k->l[i]?=some y->p y=false) (λk=>[(0,.sl l.length 3 (l.flatMap cO)),(1,.fn fid first cap),(7,.sl l.length 3 (l.flatMap cO)),(8,ab l.length),(9,ab k)]) (λk=>[]) zH zp ?_;intro k hk hall;refine zT l k ?_ ?_;rintro rfl;rotate_left;intro x hx hlt;rotate_left
 ·exact(gg)<|(zV)<|zo [.tmp 4] (hq:=by rw[Hv hall])
 ·refine(gA)<|(aD (cJ hlt (aQ (e:=3) (enc:=cO) gc hx) @cO.eq_1))<|zA [(0,.sl l.length 3 (l.flatMap cO)),(1,.fn fid first cap),(6,.ptr 0 0),(7,.sl l.length 3 (l.flatMap cO)),(8,ab l.length),(9,ab k)] [.cells (cO x)] (cf (gm hn1 hn2 @fa @au.{1}))<|(e9 @cO.eq_1)<|(zK (hp x (mem_iff_getElem?.2 ⟨k,hx⟩)) (hwk:=((cu.refl hg.1).app zr).app (cu.refl hg.2))) ?_;refine aL.nil ?_
  change aG _ _ _ _ _;cases hpx:p x
  ·refine(zN)<|(aD (zi hlt hlen)) ?_;refine zX hlt zH ?_
   intro i y hi hy;by_cases hik:i=k
   ·subst hik;rw[hx] at hy;cases hy;exact hpx
   ·exact hall i y i4 hy
  ·exact(cI)<|zo [.tmp 4] (hq:=by rw[Hu hx hpx])
def Eb{l:List (wC)}(p:wC->Bool)(hlen:l.length<=1000000)(hp:∀x∈l,PC aa fid ((first++[.ag (dE x)])++cap) (·=ai (p x)))(hg:bR first=true/\bR cap=true):PC aa 67 [an 5 l dE,.fn fid first cap] (·=ai (l.any p)):=by
 refine pB 17 Tryz.func67 ?_;have hn1:=λo:Nat=>cg (o:=o) hg.1;have hn2:=λo:Nat=>cg (o:=o) hg.2
 refine(aD @an.eq_1)<|(zV)<|(zs) ?_;refine zL l (λk=>∀(i:Nat) y,i<k->l[i]?=some y->p y=false) (λk=>[(0,.sl l.length 5 (l.flatMap dE)),(1,.fn fid first cap),(7,.sl l.length 5 (l.flatMap dE)),(8,ab l.length),(9,ab k)]) (λk=>[]) zH zp ?_;intro k hk hall;refine zT l k ?_ ?_;rintro rfl;rotate_left;intro x hx hlt;rotate_left
 ·exact(gg)<|(zV)<|zo [.tmp 4] (hq:=by rw[Hv hall])
 ·refine(gA)<|(aD (cJ hlt (aQ (e:=5) (enc:=dE) gc hx) @dE.eq_1))<|zA [(0,.sl l.length 5 (l.flatMap dE)),(1,.fn fid first cap),(6,.ptr 0 0),(7,.sl l.length 5 (l.flatMap dE)),(8,ab l.length),(9,ab k)] [.cells (dE x)] (cf (gm hn1 hn2 @fa @au.{1}))<|(e9 @dE.eq_1)<|(zK (hp x (mem_iff_getElem?.2 ⟨k,hx⟩)) (hwk:=((cu.refl hg.1).app zr).app (cu.refl hg.2))) ?_;refine aL.nil ?_
  change aG _ _ _ _ _;cases hpx:p x
  ·refine(zN)<|(aD (zi hlt hlen)) ?_;refine zX hlt zH ?_
   intro i y hi hy;by_cases hik:i=k
   ·subst hik;rw[hx] at hy;cases hy;exact hpx
   ·exact hall i y i4 hy
  ·exact(cI)<|zo [.tmp 4] (hq:=by rw[Hu hx hpx])
def GW{l:List (aq)}(p:aq->Bool)(hlen:l.length<=1000000)(hp:∀x∈l,PC aa fid ((first++[.ag (ae x)])++cap) (·=ai (p x)))(hg:bR first=true/\bR cap=true):PC aa 151 [an 14 l ae,.fn fid first cap] (·=ai (l.any p)):=by
 refine pB 17 Tryz.func151 ?_;have hn1:=λo:Nat=>cg (o:=o) hg.1;have hn2:=λo:Nat=>cg (o:=o) hg.2
 refine(aD @an.eq_1)<|(zV)<|(zs) ?_;refine zL l (λk=>∀(i:Nat) y,i<k->l[i]?=some y->p y=false) (λk=>[(0,.sl l.length 14 (l.flatMap ae)),(1,.fn fid first cap),(7,.sl l.length 14 (l.flatMap ae)),(8,ab l.length),(9,ab k)]) (λk=>[]) zH zp ?_;intro k hk hall;refine zT l k ?_ ?_;rintro rfl;rotate_left;intro x hx hlt;rotate_left
 ·exact(gg)<|(zV)<|zo [.tmp 4] (hq:=by rw[Hv hall])
 ·refine(gA)<|(aD (cJ hlt (aQ (e:=14) (enc:=ae) gc hx) @ae.eq_1))<|zA [(0,.sl l.length 14 (l.flatMap ae)),(1,.fn fid first cap),(6,.ptr 0 0),(7,.sl l.length 14 (l.flatMap ae)),(8,ab l.length),(9,ab k)] [.cells (ae x)] (cf (gm hn1 hn2 @fa @au.{1}))<|(e9 @ae.eq_1)<|(zK (hp x (mem_iff_getElem?.2 ⟨k,hx⟩)) (hwk:=((cu.refl hg.1).app zr).app (cu.refl hg.2))) ?_;refine aL.nil ?_
  change aG _ _ _ _ _;cases hpx:p x
  ·refine(zN)<|(aD (zi hlt hlen)) ?_;refine zX hlt zH ?_
   intro i y hi hy;by_cases hik:i=k
   ·subst hik;rw[hx] at hy;cases hy;exact hpx
   ·exact hall i y i4 hy
  ·exact(cI)<|zo [.tmp 4] (hq:=by rw[Hu hx hpx])
def DJ(x:qh)(part fh:List Nat)(day:Int):PC aa 61 ([.ag (cO x)]++[.ip [ah part],.ip [ah fh],.ip [ab day]]) (·=ai (decide (x.part=part)&&(decide (x.fh=fh)&&decide (day<=x.to)))):=by
 refine pB 22 Tryz.func61 ?_;refine(aD @cO.eq_1) ?_;cases g1:decide (x.part=part)
 ·exact(aD g1)<|zo [.tmp 5]
 cases g2:decide (x.fh=fh)
 ·exact(aD (bu g1 g2))<|zo [.tmp 5]
 ·exact(aD (bu g1 g2))<|zo [.tmp 5]
def DK(l:List qh)(part fh:List Nat)(day:Int)(hlen:l.length<=1000000):PC aa 20 [an 3 l cO,ah part,ah fh,ab day] (·=ai (th l part fh day)):=by
 have hs:=A9 (l:=l) (λx=>decide (x.part=part)&&(decide (x.fh=fh)&&decide (day<=x.to))) (fid:=61) (first:=[]) (cap:=[.ip [ah part],.ip [ah fh],.ip [ab day]]) hlen (λx _=>DJ x part fh day) ⟨rfl,rfl⟩
 refine pB 12 Tryz.func20 ?_;refine(zV) ?_;exact zZ [(0,an 3 l cO),(5,.ip [ah part]),(6,.ptr 1 0),(7,.ptr 2 0)] 0 rfl (gw @an.eq_1)<|zZ [(0,an 3 l cO),(5,.ip [ah part]),(6,.ip [ah fh]),(7,.ptr 2 0)] 1 rfl (gw @an.eq_1)<|zZ [(0,an 3 l cO),(5,.ip [ah part]),(6,.ip [ah fh]),(7,.ip [ab day])] 2 rfl (gw @an.eq_1)<|zA [(0,an 3 l cO),(5,.ip [ah part]),(6,.ip [ah fh]),(7,.ip [ab day])] [] zH<|(zC)<|(zK hs)<|(zR)<|zo [.tmp 8]
def GF{l:List (Int)}(p:Int->Bool)(hlen:l.length<=1000000)(hp:∀x∈l,PC aa fid ((first++[ab x])++cap) (·=ai (p x)))(hg:bR first=true/\bR cap=true):PC aa 160 [an 1 l (aH ab),.fn fid first cap] (·=ab (fO p l)):=by
 refine pB 19 Tryz.func160 ?_;refine(aD @an.eq_1)<|(zV)<|(zs) ?_;refine zL l (λk=>∀(i:Nat) y,i<k->l[i]?=some y->p y=false) (λk=>[(0,.sl l.length 1 (l.flatMap (aH ab))),(1,.fn fid first cap),(7,ab l.length),(8,ab k)]) (λk=>[]) zH zp ?_;intro k hk hall;refine zT l k ?_ ?_;rintro rfl;rotate_left;intro x hx hlt;rotate_left
 ·exact(gg)<|(zV)<|zo [.tmp 4] (hq:=by rw[ib hall])
 ·refine(gA)<|(zV)<|(e9 (cJ hlt (aQ (e:=1) (enc:=(aH ab)) gc hx) @aH.eq_1))<|(zK (hp x (mem_iff_getElem?.2 ⟨k,hx⟩)) (hwk:=((cu.refl hg.1).app zr).app (cu.refl hg.2))) ?_;refine aL.nil ?_
  change aG _ _ _ _ _;cases hpx:p x
  ·refine(zN)<|(aD (zi hlt hlen)) ?_;refine zX hlt zH ?_
   intro i y hi hy;by_cases hik:i=k
   ·subst hik;rw[hx] at hy;cases hy;exact hpx
   ·exact hall i y i4 hy
  ·exact(cI)<|zo [.tmp 4] (hq:=by rw[lT hx hpx hall])
def vV{l:List (Int)}(p:Int->Bool)(hlen:l.length<=1000000)(hp:∀x∈l,PC aa fid ((first++[ab x])++cap) (·=ai (p x)))(hg:bR first=true/\bR cap=true):PC aa 80 [an 1 l (aH ab),.fn fid first cap] (·=ai (l.any p)):=by
 refine pB 9 Tryz.func80 ?_;exact(jr)<|(zK (GF p hlen hp hg) (hwk:=.cons (Wk.sl _ _ _) (.cons (.fn (cu.refl hg.1) (cu.refl hg.2)) .nil)))<|(zR)<|zo [.tmp 4] (hq:=by rw[nB])
def AZ(l:List Int)(s:Int)(hlen:l.length<=1000000):PC aa 161 [an 1 l (aH ab),ab s] (·=ab (fO (λx=>decide (s=x)) l)):=by
 refine pB 19 Tryz.func161 ?_;refine(om)<|(zs) ?_;refine zL l (λk=>∀(i:Nat) y,i<k->l[i]?=some y->decide (s=y)=false) (λk=>[(0,.sl l.length 1 (l.flatMap (aH ab))),(1,ab s),(7,ab l.length),(8,ab k)]) (λk=>[]) zH zp ?_;intro k hk hall;refine zT l k ?_ ?_;rintro rfl;rotate_left;intro x hx hlt;rotate_left
 ·exact(gg)<|(zV)<|zo [.tmp 4] (hq:=by rw[ib hall])
 ·refine(gA)<|(zV)<|(aD (cJ hlt (aQ (e:=1) (enc:=aH ab) gc hx) @aH.eq_1)) ?_
  cases hpx:decide (s=x)
  ·refine(zN)<|(aD (zi hlt hlen)) ?_;refine zX hlt zH ?_
   intro i y hi hy;by_cases hik:i=k
   ·subst hik;rw[hx] at hy;cases hy;exact hpx
   ·exact hall i y i4 hy
  ·exact(cI)<|zo [.tmp 4] (hq:=by rw[lT hx hpx hall])
def vC(l:List Int)(s:Int)(hlen:l.length<=1000000):PC aa 82 [an 1 l (aH ab),ab s] (·=ai (l.contains s)):=by
 have hc:l.contains s=l.any λx=>decide (s=x):=by
  rw[dt,bw,List.any_eq_true];exact⟨λh=>⟨s,h,wl rfl⟩,λ⟨x,h,e⟩=>by rw[ww e];exact h⟩
 rw[hc]
 refine pB 9 Tryz.func82 ?_;exact(jr)<|(zK (AZ l s hlen))<|(zR)<|zo [.tmp 4] (hq:=by rw[nB])
def L6(h:mA)(m:Int)(hlen:h.back.length<=1000000):PC aa 81 ([ab m]++[.ip (bZ h)]) (·=ai (!h.back.contains m)):=by
 refine pB 9 Tryz.func81 ?_;exact(zV)<|(e9 @bZ.eq_1)<|(zK (vC h.back m hlen))<|(zR)<|zo [.tmp 3]
def L7(h:mA)(hm:h.members.length<=1000000)(hb:h.back.length<=1000000):PC aa 32 [.ag (bZ h)] (·=ai (AP h)):=by
 refine pB 7 Tryz.func32 ?_;refine(aD @bZ.eq_1) ?_;exact zZ [(1,.ip (bZ h))] 0 rfl (gw (bu @an.eq_1 @bZ.eq_1))<|zA [(1,.ip (bZ h))] [] zH<|(e9 @bZ.eq_1)<|(zK (vV (l:=h.members) (λm=>!h.back.contains m) (fid:=81) (first:=[]) (cap:=[.ip (bZ h)]) hm (λm _=>L6 h m hb) ⟨rfl,rfl⟩))<|(zR)<|zo [.tmp 2]
def DZ(l:List aV)(kind name other:List Nat)(hlen:l.length<=1000000)(hs:∀k∈l,k.bL.length<=1000000/\∀s∈k.bL,s.kinds.length<=1000000):PC aa 66 [.ag [an 3 l ao],ah kind,ah name,ah other] (·=ai (rB l kind name other)):=by
 refine pB 34 Tryz.func66 ?_;have hF:=Am l kind name hlen λk hk=>(hs k hk).1;refine(jr) ?_;unfold rB
 cases hf:(dU l kind).bind λk=>pq k.bL name with
 | none=>
  rw[hf] at hF
  exact(zK hF (hfl:=.inr zr))<|(cP (cJ @iW.eq_1 @bH.eq_1 @jV.zero.eq_1))<|(zC)<|(zK (oe [] other ge) (hwk:=cu.refl rfl))<|(zR)<|(zV)<|zo [.tmp 8]
 | some q=>
  have hq:q.kinds.length<=1000000:=by
   obtain⟨k,hk,h2⟩:=ul hf;exact(hs k (b7 hk)).2 q (b7 h2)
  rw[hf] at hF;have hI:=oe q.kinds other hq;obtain⟨j,hj⟩:∃j,j=fO (λx=>decide (other=x)) q.kinds:=⟨_,rfl⟩;rw[<-hj] at hI
  refine(zK hF (hfl:=.inr zr))<|(cP (bu @iW.eq_1 @bH.eq_1))<|(zC)<|(zK hI)<|(zR) ?_
  cases g:decide (0<=j)
  ·exact(aD g)<|zo [.tmp 8] (hq:=by show _=ai (decide (0<=fO (λx=>decide (other=x)) q.kinds)&&decide (fO (λx=>decide (other=x)) q.kinds<q.normal));rw[<-hj,g];rfl)
  ·exact(aD g)<|zo [.tmp 8] (hq:=by show _=ai (decide (0<=fO (λx=>decide (other=x)) q.kinds)&&decide (fO (λx=>decide (other=x)) q.kinds<q.normal));rw[<-hj,g];rfl)
def DB(x p h:aq)(slot:List Nat):PC aa 152 ([.ag (ae x)]++[.ip (ae p++ae h),.ip [ah slot]]) (·=ai (decide (x.br=p.br)&&(decide (x.slot=slot)&&decide (x.kind=p.kind)))):=by
 refine pB 25 Tryz.func152 ?_;refine(aD @ae.eq_1) ?_;cases g1:decide (x.br=p.br)
 ·exact(aD (gm g1 @ae.eq_1 @cons_append.{0} @nil_append.{0}))<|zo [.tmp 4]
 cases g2:decide (x.slot=slot)
 ·exact(aD (lk g1 g2 @ae.eq_1 @cons_append.{0} @nil_append.{0}))<|zo [.tmp 4]
 ·exact(aD (lk g1 g2 @ae.eq_1 @cons_append.{0} @nil_append.{0}))<|zo [.tmp 4]
def DC(ps:List aq)(p h:aq)(slot:List Nat)(hlen:ps.length<=1000000):PC aa 69 [.ag (ae p++ae h),.ag [an 14 ps ae],ah slot] (·=ai (xg ps p slot)):=by
 have hs:=GW (l:=ps) (λx=>decide (x.br=p.br)&&(decide (x.slot=slot)&&decide (x.kind=p.kind))) (fid:=152) (first:=[]) (cap:=[.ip (ae p++ae h),.ip [ah slot]]) hlen (λx _=>DB x p h slot) ⟨rfl,rfl⟩
 refine pB 11 Tryz.func69 ?_;refine(aD (cJ @ae.eq_1 @cons_append.{0} @nil_append.{0})) ?_;exact zZ [(3,.ip (ae p++ae h)),(4,.ptr 1 0),(5,.ptr 2 0)] 0 rfl (gw (bu @an.eq_1 @ae.eq_1))<|zZ [(3,.ip (ae p++ae h)),(4,.ip [an 14 ps ae]),(5,.ptr 2 0)] 1 rfl (gw @an.eq_1)<|zZ [(3,.ip (ae p++ae h)),(4,.ip [an 14 ps ae]),(5,.ip [ah slot])] 2 rfl (gw @an.eq_1)<|zA [(3,.ip (ae p++ae h)),(4,.ip [an 14 ps ae]),(5,.ip [ah slot])] [] zH<|(zC)<|(zK hs)<|(zR)<|zo [.tmp 6]
def sub_eq(a b:wC):fJ eE [AV.str a.kind,.str a.slot,.str a.other,.str a.pW,.int .i64 a.to] [AV.str b.kind,.str b.slot,.str b.other,.str b.pW,.int .i64 b.to]=(decide (a.kind=b.kind)&&(decide (a.slot=b.slot)&&(decide (a.other=b.other)&&(decide (a.pW=b.pW)&&decide (a.to=b.to))))):=by
 simp only[fJ,eE,AI,sv,ly,Bool.true_and,Bool.and_true]
def IJ(s:wC)(x y z:List Nat):dk aa .eql 147 (.agg [.str s.kind,.str s.slot,.str s.other,.str s.pW,.int .i64 s.to]) (.agg [.str x,.str y,.str z,.str s.pW,.int .i64 s.to])=some (.bool (decide (s.kind=x)&&(decide (s.slot=y)&&decide (s.other=z)))):=
 sV (ks:=[.s,.s,.s,.s,.i .i64]) zW zW (by simp only[aC,m6]) rfl rfl (by rw[sub_eq s ⟨x,y,z,s.pW,s.to⟩];simp)
def GR(ps:List aq)(p h:aq)(day:Int)(s:wC)(hlen:ps.length<=1000000):PC aa 68 ([.ag (dE s)]++[.ip (ae h),.ip (ae p++ae h),.ip [ab day],.ip [an 14 ps ae]]) (·=ai ((decide (s.kind=h.kind)&&(decide (s.slot=p.slot)&&decide (s.other=p.kind)))&&(decide (day<=s.to)&&(decide (s.pW=[])||xg ps p s.pW)))):=by
 have heq:=IJ s h.kind p.slot p.kind;generalize (decide (s.kind=h.kind)&&(decide (s.slot=p.slot)&&decide (s.other=p.kind)))=g1 at heq;have hb:=DC ps p h s.pW hlen;refine pB 42 Tryz.func68 ?_;rw[show ae p++ae h=[ah p.name,ah p.kind,ah p.br,ah p.slot,ab p.made,ab p.since,ai p.cN,an 2 p.props aJ,ab p.l1,ab p.l2,ab p.l3,ab p.l4,ab p.l5,ab p.l6,ah h.name,ah h.kind,ah h.br,ah h.slot,ab h.made,ab h.since,ai h.cN,an 2 h.props aJ,ab h.l1,ab h.l2,ab h.l3,ab h.l4,ab h.l5,ab h.l6] from rfl] at hb ⊢
 refine(aD @dE.eq_1)<|(aD (bu @ae.eq_1 @dE.eq_1)) ?_
 cases g1
 ·exact(aD heq)<|zo [.tmp 6]
 cases g2:decide (day<=s.to)
 ·exact(aD (bu heq g2))<|zo [.tmp 6]
 cases g3:decide (s.pW=[]);rotate_left
 ·exact(aD (cJ heq g2 g3))<|zo [.tmp 6]
 exact(e9 (cJ heq g2 g3))<|(zK hb)<|(zR)<|zo [.tmp 6]
abbrev wP(c:List aV)(cH:List wC)(ps:List aq)(part:List Nat)(day:Int):Fm:=[(1,an 5 cH dE),(3,ah part),(5,.ip [an 3 c ao]),(7,.ip [an 14 ps ae]),(9,.ip [ab day])]
def wW(c:List aV)(cH:List wC)(ps:List aq)(part:List Nat)(day:Int)(hc:mz c)(hsub:cH.length<=1000000)(hlen:ps.length<=1000000):PC aa 23 [.ag [an 3 c ao],an 5 cH dE,.ag [an 14 ps ae],ah part,ab day] (·=ai (kC c cH ps part day)):=by
 have hf:=iB ps part hlen;have hs8:∀k∈c,k.bL.length<=1000000/\∀s∈k.bL,s.kinds.length<=1000000:=λk hk=>⟨(hc.kind k hk).2,λs hs=>(hc.slot k hk s hs).2⟩;unfold kC
 refine pB 56 Tryz.func23 ?_;refine(zV) ?_;refine zZ [(1,an 5 cH dE),(3,ah part),(5,.ip [an 3 c ao]),(7,.ptr 1 0),(9,.ptr 2 0)] 0 rfl (gw @an.eq_1)<|zZ [(1,an 5 cH dE),(3,ah part),(5,.ip [an 3 c ao]),(7,.ip [an 14 ps ae]),(9,.ptr 2 0)] 1 rfl (gw @an.eq_1)<|zZ (wP c cH ps part day) 2 rfl (gw @an.eq_1)<|zA (wP c cH ps part day) [] zH<|(zC) ?_;refine aL.k ii rfl rfl ii rfl zc (hf) (zw) (.inr (cu.refl (by cases da ps part<;>rfl))) ?_
 cases hm:da ps part with
 | none=>
  exact(cP (cJ @iW.eq_1 @ae.eq_1 @aq.zero.eq_1))<|(w6)<|(zV)<|zo [.tmp 10]
 | some p=>
  have hf2:=iB ps p.br hlen;refine(cP (bu @iW.eq_1 @ae.eq_1)) ?_;cases g1:decide (p.br=[]);rotate_left
  ·exact(aD g1)<|(cI)<|zo [.tmp 10] (hq:=by show _=ai (if p.br=[] then true else _);rw[ut (ww g1)])
  refine(aD g1)<|(zN) ?_;refine zZ ((11,.ip (ae p))::wP c cH ps part day) 0 rfl (gw (bu @an.eq_1 @ae.eq_1))<|zA ((11,.ip (ae p))::wP c cH ps part day) [] zH<|(e9 @ae.eq_1) ?_;refine aL.k ii rfl rfl ii rfl zc (hf2) (zw) (.inr (cu.refl (by cases da ps p.br<;>rfl))) ?_
  cases hm2:da ps p.br with
  | none=>
   exact(cP (cJ @iW.eq_1 @ae.eq_1 @aq.zero.eq_1))<|(aD @ae.eq_1)<|(zB)<|(w6)<|(zV)<|zo [.tmp 10] (hq:=by show _=ai (if p.br=[] then true else _);rw[v6 (wt g1),hm2])
  | some h=>
   refine(cP (bu @iW.eq_1 @ae.eq_1)) ?_;refine zZ ((13,.ip (ae h))::(12,ai true)::(11,.ip (ae p))::wP c cH ps part day) 0 rfl (gw (bu @an.eq_1 @ae.eq_1))<|zA ((13,.ip (ae h))::(12,ai true)::(11,.ip (ae p))::wP c cH ps part day) [] zH<|(aD @ae.eq_1) ?_;refine zZ ((14,.ip (ae p++ae h))::(13,.ip (ae h))::(12,ai true)::wP c cH ps part day) 0 rfl (gw (bu @an.eq_1 @ae.eq_1))<|zA ((14,.ip (ae p++ae h))::(13,.ip (ae h))::(12,ai true)::wP c cH ps part day) [] zH ?_
   have hs:=Eb (l:=cH) (λs=>(decide (s.kind=h.kind)&&(decide (s.slot=p.slot)&&decide (s.other=p.kind)))&&(decide (day<=s.to)&&(decide (s.pW=[])||xg ps p s.pW))) (fid:=68) (first:=[]) (cap:=[.ip (ae h),.ip (ae p++ae h),.ip [ab day],.ip [an 14 ps ae]]) hsub (λs _=>GR ps p h day s hlen) ⟨rfl,rfl⟩
   refine(zB)<|(El)<|(e9 (cJ @ae.eq_1 @cons_append.{0} @nil_append.{0}))<|(zK (DZ c h.kind p.slot p.kind hc.len hs8)) ?_
   cases hn:rB c h.kind p.slot p.kind
   ·exact(zR)<|(Ml)<|(zK hs)<|(zR)<|zo [.tmp 10] (hq:=by show _=ai (if p.br=[] then true else _);rw[v6 (wt g1),hm2];show _=ai (rB c h.kind p.slot p.kind||_);rw[hn];rfl)
   ·exact(zR)<|(cI)<|zo [.tmp 10] (hq:=by show _=ai (if p.br=[] then true else _);rw[v6 (wt g1),hm2];show _=ai (rB c h.kind p.slot p.kind||_);rw[hn];rfl)
structure Ch (d:ea):Prop where
 name:fi d.name
 kind:fi d.kind
 key:fi d.key
def II(d:ea)(hd:Ch d):PC aa 146 [.ag (bf d)] (·=ai (rU d)):=by
 refine pB 43 Tryz.func146 ?_;unfold rU
 refine(aD @bf.eq_1) ?_;refine zZ [(1,.ip (bf d))] 0 rfl (gw @bf.eq_1)<|zA [(1,.ip (bf d))] [] zH<|(e9 @bf.eq_1)<|(zK (dW d.name hd.name)) ?_
 cases cX d.name
 ·exact(zR)<|zo [.tmp 2]
 refine(Mf @bf.eq_1)<|(zK (dW d.kind hd.kind)) ?_
 cases cX d.kind
 ·exact(zR)<|zo [.tmp 2]
 refine(Mf @bf.eq_1)<|(zK (dW d.key hd.key)) ?_
 cases cX d.key
 ·exact(zR)<|zo [.tmp 2]
 cases g1:decide (1<=d.after)
 ·exact(cP (bu g1 @bf.eq_1))<|zo [.tmp 2]
 cases g2:decide (d.after<=7)
 ·exact(cP (cJ g1 g2 @bf.eq_1))<|zo [.tmp 2]
 cases g3:decide (0<=d.within)
 ·exact(cP (gm g1 g2 g3 @bf.eq_1))<|zo [.tmp 2]
 ·exact(cP (gm g1 g2 g3 @bf.eq_1))<|zo [.tmp 2]
def L8(e:bB)(part:List Nat)(day:Int):PC aa 228 ([.ag (ar e)]++[.ip [ah part],.ip [ab day]]) (·=ai (LD part day e)):=by
 refine pB 15 Tryz.func228 ?_;unfold LD;rw[dw];refine(zV) ?_;cases g1:decide (e.part=part)
 ·exact(aD g1)<|zo [.tmp 4]
 ·exact(aD g1)<|zo [.tmp 4]
def GP(e:bB)(d:ea):PC aa 230 ([.ag (ar e)]++[.ip (bf d)]) (·=ai (decide (e.op=6)&&decide (e.key=d.key))):=by
 refine pB 15 Tryz.func230 ?_;rw[dw];refine(zV) ?_;cases g1:decide (e.op=6)
 ·exact(aD g1)<|zo [.tmp 3]
 ·exact(aD (bu g1 @bf.eq_1))<|zo [.tmp 3]
def Gp(e:bB)(d:ea):PC aa 231 ([.ag (ar e)]++[.ip (bf d)]) (·=ai (decide (e.op=d.after))):=by
 refine pB 10 Tryz.func231 ?_;rw[dw]
 exact(zV)<|(aD @bf.eq_1)<|zo [.tmp 3]
def L4(n b:Int)(d:ea)(hb:0<=b/\b<=40000)(hw:0<=d.within/\d.within<=40000):PC aa 232 ([ab n]++[.ip [ab b],.ip (bf d)]) (·=ai (decide (b<=n)&&decide (n<=b+d.within))):=by
 refine pB 17 Tryz.func232 ?_;refine(zV) ?_;cases g1:decide (b<=n)
 ·exact(aD g1)<|zo [.tmp 4]
 ·exact(aD (cJ g1 @bf.eq_1 (Ct (P:=aa) (t:=3) (show -9223372036854775808<=b+d.within/\b+d.within<=9223372036854775807 from⟨by omega,by omega⟩))))<|zo [.tmp 4]
structure nq where
 f:SV
 p:bB->Bool
def kS(c:nq):List SV:=[c.f]
def nq.ok(c:nq):Prop:=∃g cap,c.f=.fn g [] cap/\bR cap=true/\∀e,PC aa g ([.ag (ar e)]++cap) (·=ai (c.p e))
def Gu(c:nq)(hc:c.ok)(e:bB):PC aa 283 ([c.f]++[.ip (ar e)]) (·=ai (!(c.p e))):=by
 obtain⟨g,cap,h1,h2,h3⟩:=hc;have h3:=h3 e;have hk2:∀o:Nat,cap.map (aM o)=cap:=λo=>bQ h2;have hn2:∀o:Nat,eI o cap=false:=λo=>cg h2;rw[h1];refine pB 8 Tryz.func283 ?_;rw[dw] at h3 ⊢
 exact(jr)<|(zK h3 (hwk:=.cons (.ag zr) (cu.refl h2)))<|(zR)<|zo [.tmp 3]
end Go.Proofs
