/- Lemmas of this claim, each with its conditions. -/
import Derived.Test.YtjiejanfnnieaaaGreatW6
import Derived.Test.YtjiejanfnnieaaaGreatW5
import Derived.Test.YtjiejanfnnieaaaGreatW4
import Derived.Test.YtjiejanfnnieaaaGreatW3
import Derived.Test.YtjiejanfnnieaaaGreatW2
set_option linter.all false
set_option maxHeartbeats 8000000
open List (nil_append mem_iff_getElem? flatMap_cons cons_append all_eq_true filterMap_nil Perm drop_zero map_nil flatMap_nil mem_filter mem_map)
open Bool (not_not)
open Go.Proofs.Tryz (func129 func215 func216 func224 func274)
open Go.Proofs.Tryz renaming prog -> aa, func136 -> cp
open Nat renaming reduceEqDiff -> ac, reduceLeDiff -> ad, reduceAdd -> aj, reduceLT -> am, reduceMul -> ap, le_refl -> ay, add_zero -> ba, lt_succ_self -> be, reduceSub -> bh, mul_one -> bk, le_trans -> b7, not_lt_zero -> ce, zero_le -> cf, sub_self -> ck, min_eq_left -> cn, pos_of_ne_zero -> co, add_assoc -> fv, zero_add -> fx
open List renaming length_map -> af, mem_of_getElem? -> al, drop_of_length_le -> a5, length_take -> a7, take_of_length_le -> a8, append_nil -> a9, take_length -> bb, getElem?_map -> bc, take_append_of_le_length -> bd, flatMap_append -> bi, filter_cons -> bt, contains_iff_mem -> bw, length_filter_le -> b0, mem_of_find?_eq_some -> b8, length_filterMap_le -> b9, set_eq_take_append_cons_drop -> ca, drop_append -> cc, append_assoc -> ch, sizeOf_lt_of_mem -> ci, drop_length -> cl, map_append -> ct, mem_or_eq_of_mem_set -> cv, getElem?_drop -> c5, getElem?_take -> c6, replicate -> dd, filterMap_append -> dl, all_append -> dv, length_set -> dE, mem_cons_of_mem -> d6, mem_of_mem_drop -> d7, mem_of_mem_take -> d8, filterMap_cons -> d9, filter_eq_self -> el, nodup_nil -> em, filter_append -> ey, mem_cons_self -> e4, length_drop -> e5, take_append -> e6, filter_nil -> fb, foldl_cons -> fd, drop_drop -> fm
open And renaming intro -> a4
open Bool renaming false_ne_true -> bv, and_eq_true -> cb, not_eq_true' -> dc, eq_iff_iff -> dt, or_self -> fa
open Int renaming toNat_natCast -> es
namespace Go.Proofs
open Go.Ev
set_option maxRecDepth 100000
def iT(ls:List (List Nat))(hd:jv):List (List Nat):=(hd.filter λe=>ls.contains e.2).map (·.1)
def H2(ls:List (List Nat))(hd:jv)(e:List Nat×List Nat):iT ls (hd++[e])=iT ls hd++(if ls.contains e.2=true then [e.1] else []):=by
 unfold iT;rw[ey,ct];cases h:ls.contains e.2
 ·rw[bt,v6 (by rw[h];decide)];rfl
 ·rw[bt,ut h];rfl
def xU{k:List Nat}:∀{l:jv},(lN k l).length<=l.length
 | []=>ay _
 | e::l=>by
  rw[lN];split
  ·exact Nat.le_succ _
  ·exact Nat.succ_le_succ xU
def vx:∀(ks:List (List Nat)) {r:jv},(r.map (·.1)).Nodup->ks.foldl (λr k=>lN k r) r=r.filter λe=>!ks.contains e.1
 | [],r,_=>by
  rw[List.foldl_nil];symm;rw[el];intro a _;rfl
 | k::ks,r,h=>by
  rw[fd,kM h];have hn:((r.filter λe=>!decide (e.1=k)).map (·.1)).Nodup:=h.sublist ((List.filter_sublist).map _);rw[vx ks hn,List.filter_filter]
  congr 1
  funext e;rw[List.contains_cons];by_cases hh:e.1=k
  ·simp[hh]
  ·simp[hh]
def KR{r:jv}{ls mo:List (List Nat)}(hn:(r.map (·.1)).Nodup)(hm:mo.Perm (iT ls r)):mo.foldl (λr k=>lN k r) r=r.filter λe=>!ls.contains e.2:=by
 rw[vx mo hn];apply List.filter_congr;intro e he
 congr 1
 rw[dt,bw,hm.mem_iff];unfold iT;constructor
 ·intro h;obtain⟨e',he',h2⟩:=mem_map.1 h;obtain⟨h3,h4⟩:=mem_filter.1 he'
  have:e'=e:=by
   obtain⟨i,hi⟩:=mem_iff_getElem?.1 h3;obtain⟨j,hj⟩:=mem_iff_getElem?.1 he
   have g1:(r.map (·.1))[i]?=some e'.1:=by rw[bc,hi];rfl
   have g2:(r.map (·.1))[j]?=some e'.1:=by rw[bc,hj,h2];rfl
   have:=(List.getElem?_inj (br g1) hn).1 (g1.trans g2.symm);subst this;rw[hi] at hj;cases hj;rfl
  rw[this] at h4;exact h4
 ·intro h;exact List.mem_map_of_mem (mem_filter.2 ⟨he,h⟩)
def Ch:∀(l:List ao) (i:Nat) (m:List (List Nat×Int)),(nL i m l).length<=m.length+l.length
 | [],_,_=>ay _
 | p::r,i,m=>by
  rw[nL];refine b7 (Ch r _ _) ?_
  cases h:dG p.name m with
  | true=>simp only[if_true,i7];omega
  | false=>simp only[Bool.false_eq_true,if_false,qB h,li,i7,i5];omega
def yO{α:Type}(p:α->Bool):∀l:List α,(l.filter p).length+(l.filter λx=>!p x).length=l.length
 | []=>rfl
 | a::l=>by
  have:=yO p l;cases h:p a
  ·rw[bt,v6 (by rw[h];decide),bt,ut (by rw[h];rfl),i7,i7];omega
  ·rw[bt,ut h,bt,v6 (by rw[h];decide),i7,i7];omega
def H0{ls:List (List Nat)}{a b:jv}(h:a.Perm b):(iT ls a).Perm (iT ls b):=(h.filter _).map _
def cF{p o e n:Nat}(h:o≠p):names p (cx o e n)=false:=by
 unfold cx;split
 ·exact lY _
 ·rw[names];exact wd h
def dK(q:Nat->Nat)(o e n:Nat):fo q (cx o e n)=cx (q o) e n:=by
 unfold cx;split
 ·rw[Oe]
 ·rw[De]
def yH(r:jv)(bs:List Nat)(c:Nat):SO:=.map (r.map λe=>.str e.1) (r.map λe=>ah e.2) (some (bs,c))
def uX(o:Nat)(r:jv)(bs:List Nat)(c:Nat):bI o (yH r bs c)=yH r bs c:=by
 unfold yH;rw[bI]
 congr 1
 exact bU (pw (uv:=ah) (λ_=>rfl) r)
def Ki(q:Nat->Nat)(r:jv)(bs:List Nat)(c:Nat):pJ q (yH r bs c)=yH r bs c:=by
 unfold yH;rw[J9]
 congr 1
 exact bq (pw (uv:=ah) (λ_=>rfl) r)
def Kh(q:Nat->Nat)(r:jv):pJ q (bH AV.str ah r)=bH AV.str ah r:=by
 unfold bH;rw[J9]
 congr 1
 exact bq (pw (uv:=ah) (λ_=>rfl) r)
def qI(ps:List ao)(part:List Nat)(hlen:ps.length<=100000):SC aa 17 [.ag [ak 14 ps ae],ah part] [] [] (λr S'=>r=cx 0 1 (fQ ps part).length/\S'=[eY (fQ ps part)]):=by
 refine LB 87 Tryz.func17 ?_;refine(jn)<|(zK (rD ps i4) (hfl:=.inr zr)) ?_
 have hgood:Hg ps (nL 0 [] ps):=Eu (ps:=ps) rfl ⟨λe he=>by simp at he,em⟩
 have hMl:(nL 0 [] ps).length<=ps.length:=by have:=Ch ps 0 [];simpa using this
 obtain⟨M,hM⟩:∃M,M=nL 0 [] ps:=⟨_,rfl⟩
 have hN:fQ ps part=if dG part M=true then ee (dR (ps.length+2) (lN part (jU ps M)) [part]) else []:=by rw[hM];rfl
 rw[<-hM] at hgood hMl
 refine(cP (bx @B5.eq_1 (Eq.symm hM)))<|(zs) ?_;refine aF.r0 ii (by simp only[cN,bL,ak,aB,m7,m6,↓reduceIte,ac,aj,ap,ad,am,an,au,bn,vU (l:=M)];first | done | rfl) ?_;refine(zV) ?_
 cases h1:dG part M
 ·refine(cL) ?_;rw[h1,v6 g9] at hN
  refine zA [(4,aR)] [.gone] zH<|(zE) ?_;exact zP [.tmp 4] (hq:=by (try simp only[ez,bK]);first | done | (rw[hN];exact⟨rfl,rfl⟩))
 rw[h1,ut rfl] at hN
 refine(lf)<|(zC) ?_;refine aK.TH (ks:=M.map λe=>.str e.1) (vs:=M.map λe=>ab e.2) ii rfl rfl ii rfl (by simp only[aB]) ?_
 intro bs c hbs;refine(cP @jH) ?_
 (repeat refine aF.seq ?_)
 refine aF.block (aF.loop (λm st=>∃pos:List Nat,pos.Nodup/\(∀j∈pos,j<M.length)/\M.length-pos.length=m/\st=⟨[(1,ah part),(5,.ptr 1 0),(8,.map 2),(33,.ptr 3 0)],87,[.gone,.cells [ak 14 ps ae,lR AV.str ab M],bH AV.str ah (jU ps (bo M pos)),.oB (M.map λe=>.str e.1) (M.map λe=>ab e.2) bs c pos],[]⟩) M.length (cm (na @bH.eq_1 @bo.eq_1 @jU.eq_1 @filterMap_nil.{0,0} @map_nil.{0,0})) ⟨[],em,λj hj=>by simp at hj,rfl,rfl⟩ (by rintro m st ⟨pos,_,_,_,rfl⟩;rfl) ?_);rintro m st ⟨pos,hpn,hpl,rfl,rfl⟩;refine(zC) ?_;refine aK.TD ii rfl rfl ii rfl rfl (λj hj=>by rw[af];exact hpl j hj) ?_ ?_;rotate_left
 ·intro j hj hjn;rw[af] at hj;obtain⟨e,he⟩:∃e,M[j]?=some e:=⟨M[j],jp hj⟩;obtain⟨q1,q2,q3⟩:=qz hpn hpl hj hjn;obtain⟨i,x,hi,hx,hxn⟩:=hgood.1 e (al he);have hil:=br hx;have hsn:=kQ M pos he;have hfresh:=HL hgood.2 he hjn
  refine(zR)<|(gz)<|(zC) ?_;refine aK.Tx (k:=.str e.1) (v:=ab e.2) ii rfl rfl ii rfl rfl (by rw[bc,he];rfl) (by rw[bc,he];rfl) ?_;refine(zR) ?_
  rw[hi];refine(aA (cO hil (aT (e:=14) (enc:=ae) gc hx) @ae.eq_1)) ?_
  have hin:CL ps e.2=x.bu:=by unfold CL;rw[hi,es,hx]
  by_cases hx0:x.bu=[]
  ·refine(aA (wl hx0))<|(zN) ?_
   have hr:jU ps (bo M (pos++[j]))=jU ps (bo M pos):=by
    rw[hsn];unfold jU;rw[dl,d9,ut (by rw[hin,hx0]),filterMap_nil,a9]
   exact⟨M.length-(pos++[j]).length,_,by rw[li];simp only[i7,i5];omega,(cm hr),pos++[j],q1,q2,rfl,rfl⟩
  ·refine(aA (wd hx0))<|(zY)<|(zs) ?_;refine aF.r0 ii (by simp only[cN,bL,ak,aB,m7,m6,↓reduceIte,ac,aj,ap,ad,am,an,au,bn,I1 (l:=jU ps (bo M pos))];first | done | rfl) ?_
   have hr:jU ps (bo M (pos++[j]))=cD e.1 x.bu (jU ps (bo M pos)):=by
    rw[qB (by
     cases hh:dG e.1 (jU ps (bo M pos)) with
     | false=>rfl
     | true=>exact un (yP (kS.1 hh)) hfresh),hsn]
    unfold jU;rw[dl,d9,v6 (by rw[hin];exact hx0),filterMap_nil,hin]
   exact⟨M.length-(pos++[j]).length,_,by rw[li];simp only[i7,i5];omega,(cm hr),pos++[j],q1,q2,rfl,rfl⟩
 intro hall;have hperm:(bo M pos).Perm M:=mG hpn hpl λj hj=>hall j (by rw[af];exact hj)
 refine(zR)<|(gh)<|(zs) ?_;refine aF.r0 ii (by simp only[cN,bL,ak,aB,m7,m6,↓reduceIte,ac,aj,ap,ad,am,an,au,bn,zz (l:=jU ps (bo M pos))];first | done | rfl) ?_
 obtain⟨r0,hr0⟩:∃r0,r0=lN part (jU ps (bo M pos)):=⟨_,rfl⟩;have hnk:((bo M pos).map (·.1)).Nodup:=(hperm.map (·.1)).nodup_iff.2 hgood.2
 have hrp:r0.Perm (lN part (jU ps M)):=by
  rw[hr0,kM (jk hnk),kM (jk hgood.2)];exact(hperm.filterMap _).filter _
 have hr0n:(r0.map (·.1)).Nodup:=by
  rw[hr0,kM (jk hnk)];exact(jk hnk).sublist (List.filter_sublist.map _)
 have hr0l:r0.length<=ps.length:=by
  rw[hrp.length_eq];exact b7 xU (b7 (b9 _ _) hMl)
 have hN2:fQ ps part=ee (dR (ps.length+2) r0 [part]):=by
  rw[hN];exact sA (nS _ hrp.symm (λ_=>rfl) Iff.rfl)
 rw[<-hr0];clear hN hperm hall
 refine(zV)<|(aA @jH) ?_;refine zZ [(1,ah part),(8,.map 2),(12,aR),(13,ak 1 [part] (aG ah))] 4 rfl (gm (gr @ak.eq_1 @aG.eq_1 @flatMap_cons.{0,0} @flatMap_nil.{0,0}))<|zA [(1,ah part),(8,.map 0),(12,aR),(13,ak 1 [part] (aG ah))] [bH AV.str ah r0,.gone] (Fg.rn [2,0] g9 rfl (L6 @Kh) (L7 @Kh)) ?_
 clear hr0 hrp;obtain⟨T,hT0⟩:∃T,T=dR (ps.length+2) r0 [part]:=⟨_,rfl⟩;rw[<-hT0] at hN2
 (repeat refine aF.seq ?_)
 refine aF.block (aF.loop (λm st=>∃(r:jv) (ls out:List (List Nat)) (fu:Nat),((r.map (·.1)).Nodup/\r.length+(if ls=[] then 1 else 2)<=fu)/\(out++dR fu r ls).Perm T/\(out.length+r.length<=ps.length/\ls.length<=ps.length+1)/\(r.length+if ls=[] then 0 else 1)=m/\st=⟨[(1,ah part),(8,.map 0),(12,cx 1 1 out.length),(13,ak 1 ls (aG ah))],87,[bH AV.str ah r,eY out],[]⟩) (r0.length+1) (cm (cO @lA @gR @i5.{0})) ⟨r0,[part],[],ps.length+2,⟨hr0n,by rw[v6 ge];omega⟩,by rw[hT0];exact Perm.refl _,⟨by simpa using hr0l,by simp⟩,rfl,rfl⟩ (by rintro m st ⟨r,ls,out,fu,_,_,_,_,rfl⟩;rfl) ?_);rintro m st ⟨r,ls,out,fu,⟨hrn,hfu⟩,hT,⟨hsz,hlsl⟩,rfl,rfl⟩;clear hr0n hr0l hT0;by_cases hls:ls=[]
 ·subst hls
  refine(aA (show decide (0<(([]:List (List Nat)).length:Int))=false by simp))<|(gh) ?_
  have hgo:dR fu r []=[]:=by
   cases fu with
   | zero=>rfl
   | succ k=>rw[dR,ut rfl]
  rw[hgo,a9] at hT
  have hres:fQ ps part=ee out:=by rw[hN2];exact(sA hT).symm
  by_cases ho:out=[]
  ·subst ho
   refine(e9 (bx @lA @i5.{0}))<|(zK uq)<|(zR)<|(zV)<|zA [(4,aR)] [.gone] zH<|(zE) ?_;exact zP [.tmp 4] (hq:=by (try simp only[ez,bK]);first | done | (rw[hres,show ee []=[] from rfl];exact⟨rfl,rfl⟩))
  ·have hol:¬out.length=0:=λh=>ho (t8 h);rw[en hol,fV ho]
   refine(zC) ?_;refine aK.sk [1] ii rfl rfl ii rfl zc (Ae out i4 ho) (by simp only[gx,bL,ak,↓reduceIte,ac,aj,bh,ap,ad,am,jH,bq (aD (enc:=aG ah) gc _),bQ (aD (enc:=aG ah) gc _)];first | done | rfl) rfl g9 (by simp only[CH,gx,bL,ak,jH,bq (aD (enc:=aG ah) gc _),bQ (aD (enc:=aG ah) gc _)]<;>(repeat' apply a4)<;>first | trivial | rfl | (intro hh;cases hh)) (by simp only[BV,gx,bL,ak,aj,am,decide_true,jH,bq (aD (enc:=aG ah) gc _),bQ (aD (enc:=aG ah) gc _)];first | done | rfl) (by simp only[BV,gx,bL,ak,aj,am,decide_true,jH,bq (aD (enc:=aG ah) gc _),bQ (aD (enc:=aG ah) gc _)];first | done | rfl) (by simp only[gx,bL,ak,↓reduceIte,ac,aj,bh,ap,ad,am,jH,bq (aD (enc:=aG ah) gc _),bQ (aD (enc:=aG ah) gc _)];first | done | rfl) (by simp only[gx,bL,ak,↓reduceIte,ac,aj,bh,ap,ad,am,jH,bq (aD (enc:=aG ah) gc _),bQ (aD (enc:=aG ah) gc _),bZ,cy,bI,aO,cN];first | done | rfl) (by simp only[gx,bL,ak,↓reduceIte,ac,aj,bh,ap,ad,am,jH,bq (aD (enc:=aG ah) gc _),bQ (aD (enc:=aG ah) gc _),bZ,cy,bI,aO,cN];first | done | rfl) ?_;refine(zR)<|(zV) ?_
   have hsl:(ee out).length=out.length:=(rU out).length_eq;have hsne:¬ee out=[]:=λe=>hol (by rw[<-hsl,e];rfl);refine zA [(4,.buf 0 out.length 1 none)] [.cells ((ee out).flatMap (aG ah))] (Fg.rn [1] g9 rfl (by (simp only[si,gx,bL,ak,bq (aD (enc:=aG ah) gc (ee out))])<;>(repeat' apply a4)<;>first | trivial | exact .inl rfl | exact .inr rfl | exact .inr trivial | exact .inl trivial) (by (simp only[cN,gx,bL,ak,bq (aD (enc:=aG ah) gc (ee out))])<;>(repeat' apply a4)<;>first | rfl | trivial)) ?_;refine(zE) ?_;exact zP [.tmp 4] (hq:=by (try simp only[ez,bK]);first | done | (rw[hres,hsl,en hol,fV hsne];exact⟨rfl,rfl⟩))
 rw[v6 hls] at hfu ⊢;have hl0:0<ls.length:=co λh=>hls (t8 h)
 refine(aA (show decide (0<(ls.length:Int))=true by simp only[wp];omega))<|(gz)<|(jn) ?_;refine aK.Vb (oo:=0) (ks:=r.map λe=>.str e.1) (vs:=r.map λe=>ah e.2) (b:=none) ii rfl rfl ii rfl rfl (by simp only[aB]) ?_
 intro bs c hbs;rw[af] at hbs;change aK _ _ _ _ ⟨_,_,dO [yH r bs c,eY out] _,_⟩ _;refine aK.r0 ii (by simp only[cN,bL,ak,aB,m7,m6,↓reduceIte,ac,aj,ap,ad,am,an,au,bn,fw,uX,cF (show 1≠2 by decide)];first | done | rfl) ?_
 (repeat refine aF.seq ?_)
 refine aF.block (aF.loop (λm st=>∃pos:List Nat,pos.Nodup/\(∀j∈pos,j<r.length)/\r.length-pos.length=m/\st=⟨[(1,ah part),(8,.map 0),(12,cx 1 1 out.length),(13,ak 1 ls (aG ah)),(14,cx 3 1 (iT ls (bo r pos)).length),(58,.ptr 2 0)],87,[yH r bs c,eY out,.iter (.map 0) bs c pos,eY (iT ls (bo r pos))],[]⟩) r.length (Fg.less (by (simp only[cN,bL,fF,↓reduceIte,ac,ak,bo,iT,filterMap_nil,fb,map_nil,lA,gR,i5,cF (show 1≠2 by decide)])<;>(repeat' apply a4)<;>first | rfl | trivial) (by (simp only[cN,bL,or_true,true_or,ak,bo,iT,filterMap_nil,fb,map_nil,lA,gR,i5,cF (show 1≠2 by decide)])<;>(repeat' apply a4)<;>first | exact .inr rfl | exact .inl rfl | trivial)) ⟨[],em,λj hj=>by simp at hj,rfl,rfl⟩ (by rintro m st ⟨pos,_,_,_,rfl⟩;rfl) ?_);rintro m st ⟨pos,hpn,hpl,rfl,rfl⟩;refine(zC) ?_;refine aK.U4 (ks:=r.map λe=>.str e.1) (vs:=r.map λe=>ah e.2) ii rfl rfl ii rfl rfl rfl (λj hj=>by rw[af];exact hpl j hj) ?_ ?_;rotate_left
 ·intro j hj hjn;rw[af] at hj;obtain⟨e,he⟩:∃e,r[j]?=some e:=⟨r[j],jp hj⟩;obtain⟨q1,q2,q3⟩:=qz hpn hpl hj hjn;have hsn:=kQ r pos he;have hms:=H2 ls (bo r pos) e;rw[<-hsn] at hms
  have hml:(iT ls (bo r pos)).length<=100000:=by
   unfold iT;rw[af];have h1:=b0 (λe:List Nat×List Nat=>ls.contains e.2) (bo r pos);have h2:(bo r pos).length<=pos.length:=b9 _ _;omega
  generalize iT ls (bo r pos)=mo at hms hml
  refine(zR)<|(gz)<|(zC) ?_;refine aK.UZ (ks:=r.map λe=>.str e.1) (vs:=r.map λe=>ah e.2) (k:=.str e.1) (v:=ah e.2) ii rfl rfl ii rfl rfl rfl (by rw[bc,he];rfl) (by rw[bc,he];rfl) ?_;refine(zR)<|(zC)<|(zK (iy ls e.2 i4)) ?_
  cases hc:ls.contains e.2
  ·rw[hc,v6 g9,a9] at hms
   refine(zR)<|(zN) ?_;exact⟨r.length-(pos++[j]).length,_,by rw[li];simp only[i7,i5];omega,(cm hms),pos++[j],q1,q2,rfl,rfl⟩
  ·rw[hc,ut rfl] at hms
   refine(zR)<|(zY) ?_
   have happ:=mb (enc:=aG ah) (e:=1) gc (λ_=>rfl) 3 mo e.1;have hcl:=bg (enc:=aG ah) (e:=1) gc mo;rw[show aG ah e.1=[ah e.1] from rfl,bk] at happ;by_cases hmo:mo=[]
   ·subst hmo;refine(zs) ?_;refine aF.r0 ii (by simp only[cN,bL,ak,aB,m7,m6,↓reduceIte,ac,aj,ap,ad,am,an,au,bn,lA,i5,gR,fw,uX,cF (show 1≠4 by decide),cF (show 1≠5 by decide)];first | done | rfl) ?_;exact⟨r.length-(pos++[j]).length,_,by rw[li];simp only[i7,i5];omega,((Fg.rn (f':=[(1,ah part),(8,.map 0),(12,cx 1 1 out.length),(13,ak 1 ls (aG ah)),(14,.buf 3 1 1 none),(58,.ptr 2 0)]) (n:=87) (S':=[yH r bs c,eY out,.iter (.map 0) bs c (pos++[j]),.cells [ah e.1]]) [0,1,2,5] g9 rfl (L6 (cO @Ki @eK @dK)) (L7 (cO @Ki @eK @dK)))).trans (cm (He hms @nil_append.{0} @eY.eq_1 @aG.eq_1 @flatMap_cons.{0,0} @flatMap_nil.{0,0} @cx.eq_1)),pos++[j],q1,q2,rfl,rfl⟩
   ·have hmol:¬mo.length=0:=λh=>hmo (t8 h);rw[en hmol,fV hmo]
    have hq:mo++[e.1]≠[]:=by simp
    have hql:(mo++[e.1]).length=mo.length+1:=by rw[li];rfl
    refine(zs) ?_;refine aF.r0 ii (by simp only[cN,bL,ak,aB,m7,m6,↓reduceIte,ac,aj,ap,ad,am,an,au,bn,fw,uX,cF (show 1≠4 by decide),cF (show 1≠3 by decide),bF (enc:=aG ah) gc _ mo,hcl,bk,ay,show mo.length<=1000000 by omega,happ];first | done | rfl) ?_;exact⟨r.length-(pos++[j]).length,_,by rw[li];simp only[i7,i5];omega,(cm (gr hms hql @RT (fV hq))),pos++[j],q1,q2,rfl,rfl⟩
 intro hall;have hperm:(bo r pos).Perm r:=mG hpn hpl λj hj=>hall j (by rw[af];exact hj);have hmp:(iT ls (bo r pos)).Perm (iT ls r):=H0 hperm;obtain⟨mo,hmo⟩:∃mo,mo=iT ls (bo r pos):=⟨_,rfl⟩;rw[<-hmo] at hmp ⊢;clear hall
 refine(zR)<|(gh) ?_;refine aF.fg (st':=⟨[(1,ah part),(8,.map 0),(12,cx 1 1 out.length),(13,ak 1 ls (aG ah)),(14,ak 1 mo (aG ah))],87,[bH AV.str ah r,eY out],[]⟩) ?_ ?_
 ·refine Fg.trans (b:=⟨_,87,[yH r bs c,eY out],[]⟩) ?_ (Fg.Sm (S:=[yH r bs c,eY out]) (ks:=r.map λe=>.str e.1) (vs:=r.map λe=>ah e.2) (b:=some (bs,c)) 0 rfl);by_cases h0:mo=[]
  ·rw[h0];exact Fg.trans (Fg.wk (f':=[(1,ah part),(8,.map 0),(12,cx 1 1 out.length),(13,ak 1 ls (aG ah)),(14,ak 1 ([]:List (List Nat)) (aG ah))]) ⟨.inl rfl,.inl rfl,.inl rfl,.inl rfl,.inr (.nil _),trivial⟩) zH
  ·have hmol:¬mo.length=0:=λh=>h0 (t8 h);rw[en hmol,fV h0];exact Fg.trans (Fg.freeze (f':=[(1,ah part),(8,.map 0),(12,cx 1 1 out.length),(13,ak 1 ls (aG ah)),(14,ak 1 mo (aG ah))]) 3 rfl gt ⟨.inl rfl,.inl rfl,.inl rfl,.inl rfl,.inr (.buf rfl (by rw[eD (enc:=aG ah) (e:=1) gc];exact cC.refl (aD (λ_=>rfl) _)) (by rw[bg (enc:=aG ah) (e:=1) gc];exact ay _)),trivial⟩) zH
 have hmol:mo.length<=r.length:=by
  rw[hmp.length_eq];unfold iT;rw[af];exact b0 _ _
 have hdel:=KR hrn hmp
 have hgo:((out++mo)++dR (fu-1) (r.filter λe=>!ls.contains e.2) mo).Perm T:=by
  refine Perm.trans ?_ hT;obtain⟨k,rfl⟩:∃k,fu=k+1:=⟨fu-1,by omega⟩;rw[dR,v6 hls,ch];refine Perm.append_left out (hmp.append ?_);refine nS k (Perm.refl _) (λx=>?_) ⟨λe=>?_,λe=>?_⟩
  ·rw[dt,bw,bw];exact hmp.mem_iff
  ·rw[e] at hmp;exact hmp.nil_eq.symm
  ·have:iT ls r=[]:=e;rw[this] at hmp;exact hmp.eq_nil
 have hpl:(iT ls r).length+(r.filter λe=>!ls.contains e.2).length=r.length:=by
  unfold iT;rw[af];exact yO _ r
 rw[<-hmp.length_eq] at hpl;have hrn2:((r.filter λe=>!ls.contains e.2).map (·.1)).Nodup:=hrn.sublist (List.filter_sublist.map _)
 (try change aF _ _ _ _ _)
 refine(zV)<|(zs) ?_;refine zL mo (λk=>True) (λk=>[(1,ah part),(8,.map 0),(12,cx 1 1 out.length),(14,ak 1 mo (aG ah)),(71,ak 1 mo (aG ah)),(72,ab mo.length),(73,ab k)]) (λk=>[bH AV.str ah ((mo.take k).foldl (λr k=>lN k r) r),eY out]) (cm (bx @List.take_zero.{0} @List.foldl_nil.{0,0})) zp ?_;intro k hk hall;refine zT mo k ?_ ?_;rintro rfl;rotate_left;intro x hx hlt;rotate_left
 rotate_left
 ·refine(gz)<|(aA (cO hlt (aT (e:=1) (enc:=aG ah) gc hx) @aG.eq_1))<|(zs) ?_;refine aF.r0 ii (by simp only[cN,bL,ak,aB,m7,m6,↓reduceIte,ac,aj,ap,ad,am,an,au,bn,zz (l:=(mo.take k).foldl (λr k=>lN k r) r)];first | done | rfl) ?_
  have hst:(mo.take (k+1)).foldl (λr k=>lN k r) r=lN x ((mo.take k).foldl (λr k=>lN k r) r):=by rw[c9 hx,List.foldl_append];rfl
  refine(aA (zi hlt (show mo.length<=1000000 by omega))) ?_;refine zX hlt (cm hst) trivial
 refine(gh) ?_;rw[bb,hdel];generalize hr':(r.filter λe=>!ls.contains e.2)=r' at hgo hpl hrn2
 have hme:r'.length+(if mo=[] then 0 else 1)<r.length+1/\r'.length+(if mo=[] then 1 else 2)<=fu-1:=by
  by_cases h0:mo=[]
  ·rw[ut h0,ut h0];omega
  ·have:0<mo.length:=co λh=>h0 (t8 h);rw[v6 h0,v6 h0];omega
 have hsz2:(out++mo).length+r'.length<=ps.length/\mo.length<=ps.length+1:=by rw[li];omega
 have hmk:=bF (enc:=aG ah) gc;have hmo1:(mo.flatMap (aG ah)).all eM=true:=q8 (λ_=>rfl) mo;by_cases h0:mo=[]
 ·subst h0;rw[a9] at hgo hsz2;by_cases h1:out=[]
  ·subst h1
   refine(aA (bx @lA @i5.{0}))<|(zV) ?_;exact⟨_,_,hme.1,(cm (cO @lA @gR @i5.{0})),r',[],[],fu-1,⟨hrn2,hme.2⟩,hgo,hsz2,rfl,rfl⟩
  ·have h1l:¬out.length=0:=λh=>h1 (t8 h);rw[en h1l,fV h1]
   refine(aA (bx @i5.{0} (show out.length<=1000000 by omega)))<|(zV) ?_;exact⟨_,_,hme.1,(Fg.less (by (simp only[cN,bL,fF,↓reduceIte,ac,ak,en h1l,fV h1,i5])<;>(repeat' apply a4)<;>first | rfl | trivial) (by (simp only[cN,bL,or_true,true_or,ak,en h1l,fV h1,i5])<;>(repeat' apply a4)<;>first | exact .inr rfl | exact .inl rfl | trivial)),r',[],out,fu-1,⟨hrn2,hme.2⟩,hgo,hsz2,rfl,rfl⟩
 have hmol2:¬mo.length=0:=λh=>h0 (t8 h);by_cases h1:out=[]
 ·subst h1;rw[nil_append] at hgo hsz2
  refine(aA (Tw @lA @gR @i5.{0} hmol2 (show mo.length<=1000000 by omega) hmo1 hmk @jH))<|(zV) ?_;exact⟨_,_,hme.1,((Fg.rn (f':=[(1,ah part),(8,.map 0),(12,.buf 1 mo.length 1 none),(13,ak 1 mo (aG ah))]) (n:=87) (S':=[bH AV.str ah r',.cells (mo.flatMap (aG ah))]) [0,2] g9 rfl (by (simp only[si,gx,bL,ak,Kh,bq (aD (enc:=aG ah) gc mo)])<;>(repeat' apply a4)<;>first | trivial | exact .inl rfl | exact .inr rfl | exact .inr trivial | exact .inl trivial) (by (simp only[cN,gx,bL,ak,Kh,bq (aD (enc:=aG ah) gc mo)])<;>(repeat' apply a4)<;>first | rfl | trivial))).trans (Fg.less (by (simp only[cN,bL,fF,↓reduceIte,ac,ak,en hmol2,fV h0])<;>(repeat' apply a4)<;>first | rfl | trivial) (by (simp only[cN,bL,or_true,true_or,ak,en hmol2,fV h0])<;>(repeat' apply a4)<;>first | exact .inr rfl | exact .inl rfl | trivial)),r',mo,mo,fu-1,⟨hrn2,hme.2⟩,hgo,hsz2,rfl,rfl⟩
 ·have h1l:¬out.length=0:=λh=>h1 (t8 h);have hol:=bg (enc:=aG ah) (e:=1) gc out;rw[bk] at hol;have hot:(out.flatMap (aG ah)).take out.length=out.flatMap (aG ah):=a8 (by rw[hol];exact ay _)
  have hq:¬(out++mo)=[]:=by simp[h1]
  have hql:(out++mo).length=out.length+mo.length:=li;rw[en h1l,fV h1]
  have hap:(out.flatMap (aG ah)++mo.flatMap (aG ah)).map (aO 1)=(out++mo).flatMap (aG ah):=by rw[ct,hmk,hmk,bi]
  refine(aA (bx (OV hmol2 (show mo.length<=1000000 by omega) (show out.length<=1000000 by omega) hmo1 hol @bk @ay hot hmk) (bx @jH hap)))<|(zV) ?_;exact⟨_,_,hme.1,(Fg.less (by (simp only[cN,bL,fF,↓reduceIte,ac,ak,en (show ¬(out.length+mo.length)=0 by omega),fV hq,hql])<;>(repeat' apply a4)<;>first | rfl | trivial) (by (simp only[cN,bL,or_true,true_or,ak,en (show ¬(out.length+mo.length)=0 by omega),fV hq,hql])<;>(repeat' apply a4)<;>first | exact .inr rfl | exact .inl rfl | trivial)),r',mo,out++mo,fu-1,⟨hrn2,hme.2⟩,hgo,hsz2,rfl,rfl⟩
def By(l1 l2 l3 l4 l5 l6:Int):List SV:=[ab l1,ab l2,ab l3,ab l4,ab l5,ab l6]
def Rz(a b x y:List SV)(off:Nat)(h:off=a.length):((a++(x++(y++b))).drop (off+x.length)).take y.length=y:=by
 subst h;rw[cc,show a.length+x.length-a.length=x.length by omega,a5 i4,nil_append,cc,ck,a5 (ay _),nil_append,drop_zero,bd (ay _),a8 (ay _)]
def R5(a b x y z:List SV)(off:Nat)(h:off=a.length)(hz:z.length=y.length):(a++(x++(y++b))).take (off+x.length)++(z++(a++(x++(y++b))).drop (off+x.length+z.length))=a++(x++(z++b)):=by
 subst h
 rw[e6,show a.length+x.length-a.length=x.length by omega,a8 i4,bd (ay _),a8 (ay _),
  cc,a5 i4,nil_append,show a.length+x.length+z.length-a.length=x.length+z.length by omega,cc,a5 i4,nil_append,show x.length+z.length-x.length=y.length by omega,cc,a5 (ay _),nil_append,ck,drop_zero]
 simp
def Nx(l1 l2 l3 l4 l5 l6:Int)(u:jo)(d1 d2:Int):List SV:=By (fj jK l1 l2 u.u1 u.u2).1 (fj jK l1 l2 u.u1 u.u2).2 (fj jK l3 l4 u.u3 u.u4).1 (fj jK l3 l4 u.u3 u.u4).2 (fj jK l5 l6 d1 d2).1 (fj jK l5 l6 d1 d2).2
def DM(a b:List SV)(l1 l2 l3 l4 l5 l6:Int)(u:jo)(d1 d2:Int)(hg:bV (a++(By l1 l2 l3 l4 l5 l6++b))=true):SC aa 52 [.ptr 0 a.length,.ag (eg u),kT d1 d2] [.cells (a++(By l1 l2 l3 l4 l5 l6++b))] []
 (λr S'=>r=.cA []/\S'=[.cells (a++(Nx l1 l2 l3 l4 l5 l6 u d1 d2++b))]):=by
 refine Ot 35 Tryz.func52 ?_;have hp1:=pP l1 l2 u.u1 u.u2;have hp2:=pP l3 l4 u.u3 u.u4;have hp3:=pP l5 l6 d1 d2;unfold Nx;generalize fj jK l1 l2 u.u1 u.u2=q1 at hp1 ⊢;generalize fj jK l3 l4 u.u3 u.u4=q2 at hp2 ⊢;generalize fj jK l5 l6 d1 d2=q3 at hp3 ⊢;obtain⟨cs,hcs⟩:∃cs,cs=a++(By l1 l2 l3 l4 l5 l6++b):=⟨_,rfl⟩;rw[<-hcs] at hg ⊢;have hk:∀o:Nat,cs.map (aO o)=cs:=λo=>bU hg
 have hl:cs.length=a.length+(6+b.length):=by rw[hcs,li,li];rfl
 have g1:(cs.drop a.length).take 2=[ab l1,ab l2]:=by rw[hcs];exact Rz a (ab l3::ab l4::ab l5::ab l6::b) [] [ab l1,ab l2] a.length rfl
 have g2:(cs.drop (a.length+2)).take 2=[ab l3,ab l4]:=by rw[hcs];exact Rz a (ab l5::ab l6::b) [ab l1,ab l2] [ab l3,ab l4] a.length rfl
 have g3:(cs.drop (a.length+4)).take 2=[ab l5,ab l6]:=by rw[hcs];exact Rz a b [ab l1,ab l2,ab l3,ab l4] [ab l5,ab l6] a.length rfl
 obtain⟨c1,hc1⟩:∃c1,c1=cs.take a.length++(ab q1.1::ab q1.2::cs.drop (a.length+2)):=⟨_,rfl⟩
 have e1:c1=a++([ab q1.1,ab q1.2]++([ab l3,ab l4,ab l5,ab l6]++b)):=by rw[hc1,hcs];exact R5 a (ab l3::ab l4::ab l5::ab l6::b) [] [ab l1,ab l2] [ab q1.1,ab q1.2] a.length rfl rfl
 obtain⟨c2,hc2⟩:∃c2,c2=c1.take (a.length+2)++(ab q2.1::ab q2.2::c1.drop (a.length+2+2)):=⟨_,rfl⟩
 have e2:c2=a++([ab q1.1,ab q1.2]++([ab q2.1,ab q2.2]++([ab l5,ab l6]++b))):=by rw[hc2,e1];exact R5 a (ab l5::ab l6::b) [ab q1.1,ab q1.2] [ab l3,ab l4] [ab q2.1,ab q2.2] a.length rfl rfl
 obtain⟨c3,hc3⟩:∃c3,c3=c2.take (a.length+4)++(ab q3.1::ab q3.2::c2.drop (a.length+4+2)):=⟨_,rfl⟩
 have e3:c3=a++(By q1.1 q1.2 q2.1 q2.2 q3.1 q3.2++b):=by rw[hc3,e2];exact R5 a b [ab q1.1,ab q1.2,ab q2.1,ab q2.2] [ab l5,ab l6] [ab q3.1,ab q3.2] a.length rfl rfl
 have hl1:c1.length=a.length+(6+b.length):=by rw[e1];simp;omega
 have hl2:c2.length=a.length+(6+b.length):=by rw[e2];simp;omega
 rw[<-e3];refine(aA (cO @eg.eq_1 @kT.eq_1 hk)) ?_;refine aF.post ?_;refine(zs) ?_;refine oe [0,0,0,0,8,24,56,0,128,504,0,1024,3072,7168,0,16384,65528,0,131072,393216,917504,0,4194296,8388601,16777209,33554425,67108859,134217723,268435451,536870911,1073741823,2147483647] ?_;refine(uA (gr hl (show a.length+2<=a.length+(6+b.length) by omega) g1 @ba)) ?_;refine SD.k ii rfl rfl ii rfl rfl (Ef @kT.eq_1) (hp1) (zw) rfl ?_;refine(uA (na hl @fv (show a.length+4<=a.length+(6+b.length) by omega) g2 @ba)) ?_;refine SD.k ii rfl rfl ii rfl rfl (Ef @kT.eq_1) (hp2) (zw) rfl ?_;refine(uA (na hl @fv (show a.length+6<=a.length+(6+b.length) by omega) g3 @ba)) ?_;refine SD.k ii rfl rfl ii rfl rfl (Ef @kT.eq_1) (hp3) (zw) rfl ?_;refine(uA @ba) ?_;refine SD.e ii rfl ii rfl rfl ii (mr (xO @od.eq_1 @kT.eq_1 hl @ba (show a.length+2<=a.length+(6+b.length) by omega) (Eq.symm hc1))) ?_;refine(uA @ba) ?_;refine SD.e ii rfl ii rfl rfl ii (mr (na @od.eq_1 @kT.eq_1 hl1 (show a.length+2+2<=a.length+(6+b.length) by omega) (Eq.symm hc2))) ?_;refine(uA @ba) ?_;refine SD.e ii rfl ii rfl rfl ii (mr (na @od.eq_1 @kT.eq_1 hl2 (show a.length+4+2<=a.length+(6+b.length) by omega) (Eq.symm hc3))) ?_;refine(zM) ?_;refine⟨⟨[(1000000,.ptr 0 0)],35,[.cells c3],[]⟩,(cm @ly.eq_1),?_⟩;exact zP []
abbrev r9:Nat:=1000000000000000
def gE{α:Type}{p:α->Bool}{l:List α}{k:Nat}{x:α}(hx:l[k]?=some x)(h:(l.take k).all p=true)(hp:p x=true):(l.take (k+1)).all p=true:=by
 rw[c9 hx,dv,h];show(true&&(p x&&true))=true;rw[hp];rfl
inductive kF:bE->Prop
 | mk {op n:Int} {kids:List bE}:kids.length<=r9->(∀k∈kids,kF k)->kF (.mk op n kids)
def uk:∀(d:Nat) (f:bE),SizeOf.sizeOf f<d->kF f->∀most:Int,PC Tryz.prog 154 [.ag (aE f),ab most] (·=ab (fC f most))
 | 0,f,hd,_,_=>un hd (Nat.not_lt_zero _)
 | d+1,.mk op n kids,hd,hf,most=>by
  cases hf with
  | mk hlen hks=>
  have hkd:∀k∈kids,SizeOf.sizeOf k<d:=λk hk=>by
   have h1:=List.sizeOf_lt_of_mem hk
   have h2:SizeOf.sizeOf (bE.mk op n kids)=1+SizeOf.sizeOf op+SizeOf.sizeOf n+SizeOf.sizeOf kids:=by simp
   omega
  rw[dr,fC]
  refine pB 31 Tryz.func154 ?_;refine(zV) ?_;refine zZ [(1,ab most),(2,.ip [ab op,ab n,ak 3 kids aE])] 0 rfl (gm @ak.eq_1)<|zA [(1,ab most),(2,.ip [ab op,ab n,ak 3 kids aE])] [] zH<|(og)<|(zs) ?_;refine Jg kids (λk (acc:Int)=>gP kids most 1=gP (kids.drop k) most acc) (λk acc=>[(1,ab most),(2,.ip [ab op,ab n,ak 3 kids aE]),(5,ab acc),(6,ab k)]) (λk acc=>[]) (1) zH ii ?_;intro k acc hk hall
  by_cases hlt:k<kids.length;rotate_left
  ·refine(aA (show decide ((k:Int)<(kids.length:Int))=false by simp only[wn];omega))<|(gh) ?_
   rw[List.drop_of_length_le i4,gP] at hall
   exact(zV)<|zo [.tmp 4] (hq:=by rw[hall])
  have hd:=show decide ((k:Int)<(kids.length:Int))=true by simp only[wp];omega
  obtain⟨x,hx⟩:∃x,kids[k]?=some x:=⟨kids[k],jp hlt⟩;rw[eW hx,gP] at hall;have hxm:=List.mem_of_getElem? hx;have ih:=uk d x (hkd x hxm) (hks x hxm);have hxl:((kids.flatMap aE).drop (k*3)).take 3=aE x:=aT (e:=3) (enc:=aE) eX hx;obtain⟨op',n',kids'⟩:=x;simp only[dr] at hxl ih;cases h1:decide (acc<=most)
  ·rw[ut (by have:=wt h1;omega)] at hall
   exact(aA (bx hd h1))<|(gh)<|(zV)<|zo [.tmp 4] (hq:=by rw[hall])
  rw[v6 (by have:=ww h1;omega)] at hall
  refine(aA (bx hd h1))<|(gz)<|(e9 (cO hlt hxl @oi))<|(zK (ih (tZ most acc)))<|(cP @sJ)<|(aA (zi hlt hlen)) ?_;refine xu hlt (Cc acc (fC (.mk op' n' kids') (tZ most acc))) zH hall
def GH(f:bE)(hf:kF f)(most:Int):PC aa 154 [.ag (aE f),ab most] (·=ab (fC f most)):=uk _ f (be _) hf most
def EU(f:bE):Bool:=decide (fC f 80<=80)
def IA(f:bE)(hf:kF f):PC aa 73 [.ag (aE f)] (·=ai (Proofs.EU f)):=by
 refine pB 6 Tryz.func73 ?_;have hN:=GH f hf 80;unfold Proofs.EU;generalize fC f 80=q at hN ⊢;obtain⟨op,n,kids⟩:=f;rw[dr] at hN ⊢
 exact(jn)<|(zK hN)<|(zR)<|zo [.tmp 2]
def Jj{a b:Int}(h : -9223372036854775808<=a+b/\a+b<=9223372036854775807):Cc a b=a+b:=by
 have h1:(uz (-9223372036854775808) (a+b)&&uz (a+b) 9223372036854775807)=true:=by
  rw[gp,gp];simp[h.1,h.2]
 unfold Cc;simp only[dX,PR,PE,h1,an]
def Kr{a b:Int}(h : -9223372036854775808<=a-b/\a-b<=9223372036854775807):tZ a b=a-b:=by
 have h1:(uz (-9223372036854775808) (a-b)&&uz (a-b) 9223372036854775807)=true:=by
  rw[gp,gp];simp[h.1,h.2]
 unfold tZ;simp only[dX,PR,PE,h1,an]
def BJ:∀(d:Nat) (f:bE),SizeOf.sizeOf f<d->∀most:Int,-1000<=most->most<=1000->1<=fC f most/\(fC f most<=most+1\/fC f most=1)/\(fC f most<=most->gC f)
 | 0,f,hd,_,_,_=>un hd (Nat.not_lt_zero _)
 | d+1,.mk op n kids,hd,most,h0,h1=>by
  have hkd:∀k∈kids,SizeOf.sizeOf k<d:=λk hk=>by
   have h1:=List.sizeOf_lt_of_mem hk
   have h2:SizeOf.sizeOf (bE.mk op n kids)=1+SizeOf.sizeOf op+SizeOf.sizeOf n+SizeOf.sizeOf kids:=by simp
   omega
  have key:∀(ks:List bE) (acc:Int),(∀k∈ks,k∈kids)->1<=acc->(acc<=most+1\/acc=1)->1<=gP ks most acc/\(gP ks most acc<=most+1\/gP ks most acc=1)/\(gP ks most acc<=most->acc+ks.length<=gP ks most acc/\∀k∈ks,gC k):=by
   intro ks
   induction ks with
   | nil=>intro acc _ h2 h3;rw[gP];exact⟨h2,h3,λ_=>⟨by simp,λk hk=>by cases hk⟩⟩
   | cons k ks ih=>
    intro acc hm h2 h3;rw[gP];split
    ·rename_i hlt;exact⟨h2,h3,λh=>by omega⟩
    ·rename_i hlt;rw[Kr i4];obtain⟨b1,b2,b3⟩:=BJ d k (hkd k (hm k List.mem_cons_self)) (most-acc) i4 i4;rw[Jj i4];obtain⟨c1,c2,c3⟩:=ih (acc+fC k (most-acc)) (λx hx=>hm x (List.mem_cons_of_mem _ hx)) i4 i4;refine⟨c1,c2,λh=>?_⟩;obtain⟨d1,d2⟩:=c3 h;refine⟨by rw[i7];omega,λx hx=>?_⟩
     rcases t7 hx with rfl | hx
     ·exact b3 i4
     ·exact d2 x hx
  rw[fC];obtain⟨c1,c2,c3⟩:=key kids 1 (λ_ h=>h) (Int.le_refl _) (.inr rfl);refine⟨c1,c2,λh=>?_⟩;obtain⟨d1,d2⟩:=c3 h;exact .mk i4 d2
def M9{f:bE}(h:EU f=true):gC f:=(BJ _ f (be _) 80 g9 g9).2.2 (ww h)
def pM(s:jS):Bool:=!(decide (100<(s.name.length:Int)))&&(!(decide (15<(s.kinds.length:Int)))&&s.kinds.all λn=>!(decide (100<(n.length:Int))))
def nU(k:aU):Bool:=!(decide (100<(k.name.length:Int)))&&(!(decide (15<(k.bN.length:Int)))&&k.bN.all pM)
def sU(c:List aU):Bool:=!(decide (65<(c.length:Int)))&&c.all nU
def iq{α:Type}{p:α->Bool}{l:List α}{x:α}(hx:x∈l)(hp:p x=false):l.all p=false:=Bool.eq_false_iff.2 λh=>by
 have:=all_eq_true.1 h x hx;rw[hp] at this;cases this
def IB(c:List aU):PC aa 72 [.ag [ak 3 c aq]] (·=ai (Proofs.sU c)):=by
 refine pB 80 Tryz.func72 ?_;refine(zV) ?_;refine zZ [(1,.ip [ak 3 c aq])] 0 rfl (gm @ak.eq_1)<|zA [(1,.ip [ak 3 c aq])] [] zH ?_
 cases g1:decide (65<(c.length:Int));rotate_left
 ·exact(aA g1)<|(cL)<|zo [.tmp 2] (hq:=by rw[Proofs.sU,g1];rfl)
 have hlen:c.length<=1000000:=by have:=wt g1;omega
 have hN:Proofs.sU c=c.all nU:=by rw[Proofs.sU,g1];rfl
 refine(aA g1)<|(lf)<|(zs) ?_;refine zL c (λk=>(c.take k).all nU=true) (λk=>[(1,.ip [ak 3 c aq]),(3,ab k)]) (λk=>[]) zH zp ?_;intro k hk hall
 by_cases hlt:k<c.length;rotate_left
 ·obtain rfl:k=c.length:=by omega
  rw[bb] at hall
  exact(aA (show decide ((c.length:Int)<(c.length:Int))=false by simp))<|(gh)<|(zV)<|zo [.tmp 2] (hq:=by rw[hN,hall])
 have hd:=show decide ((k:Int)<(c.length:Int))=true by simp only[wp];omega
 obtain⟨x,hx⟩:∃x,c[k]?=some x:=⟨c[k],jp hlt⟩
 have hbad:nU x=false->Proofs.sU c=false:=λh=>by rw[hN];exact iq (al hx) h
 refine(aA hd)<|(gz) ?_
 (repeat refine aF.seq ?_)
 refine(aA (cO hlt (aT (e:=3) (enc:=aq) gc hx) @aq.eq_1)) ?_;refine zZ [(1,.ip [ak 3 c aq]),(3,ab k),(4,.ip [ah x.name,ai x.vehicle,ak 3 x.bN bJ])] 0 rfl (gm @ak.eq_1)<|zA [(1,.ip [ak 3 c aq]),(3,ab k),(4,.ip [ah x.name,ai x.vehicle,ak 3 x.bN bJ])] [] zH ?_
 cases j1:decide (100<(x.name.length:Int));rotate_left
 ·exact(aA j1)<|(cL)<|zo [.tmp 2] (hq:=by rw[hbad (by rw[nU,j1];rfl)])
 cases j2:decide (15<(x.bN.length:Int));rotate_left
 ·exact(aA (bx j1 j2))<|(cL)<|zo [.tmp 2] (hq:=by rw[hbad (by rw[nU,j1,j2];rfl)])
 have hkx:nU x=x.bN.all pM:=by rw[nU,j1,j2];rfl
 have hlen2:x.bN.length<=1000000:=by have:=wt j2;omega
 refine(aA (bx j1 j2))<|(lf)<|(zs) ?_;refine zL x.bN (λk2=>(x.bN.take k2).all pM=true) (λk2=>[(1,.ip [ak 3 c aq]),(3,ab k),(4,.ip [ah x.name,ai x.vehicle,ak 3 x.bN bJ]),(5,ab k2)]) (λk2=>[]) zH zp ?_;intro k2 hk2 hall2
 by_cases hlt2:k2<x.bN.length;rotate_left
 ·obtain rfl:k2=x.bN.length:=by omega
  rw[bb] at hall2
  refine(aA (show decide ((x.bN.length:Int)<(x.bN.length:Int))=false by simp))<|(gh)<|(aA (zi hlt hlen)) ?_;refine zX hlt zH (gE hx hall (by rw[hkx,hall2]))
 have hd2:=show decide ((k2:Int)<(x.bN.length:Int))=true by simp only[wp];omega
 obtain⟨y,hx2⟩:∃y,x.bN[k2]?=some y:=⟨x.bN[k2],jp hlt2⟩
 have hbad2:pM y=false->nU x=false:=λh=>by rw[hkx];exact iq (al hx2) h
 refine(aA hd2)<|(gz) ?_
 (repeat refine aF.seq ?_)
 cases j3:decide (100<(y.name.length:Int));rotate_left
 ·exact(aA (gr hlt2 (aT (e:=3) (enc:=bJ) gc hx2) @bJ.eq_1 j3))<|(cL)<|zo [.tmp 2] (hq:=by rw[hbad (hbad2 (by rw[pM,j3];rfl))])
 cases j4:decide (15<(y.kinds.length:Int));rotate_left
 ·exact(aA (na hlt2 (aT (e:=3) (enc:=bJ) gc hx2) @bJ.eq_1 j3 j4))<|(cL)<|zo [.tmp 2] (hq:=by rw[hbad (hbad2 (by rw[pM,j3,j4];rfl))])
 have hky:pM y=y.kinds.all λn=>!(decide (100<(n.length:Int))):=by rw[pM,j3,j4];rfl
 have hlen3:y.kinds.length<=1000000:=by have:=wt j4;omega
 refine(aA (na hlt2 (aT (e:=3) (enc:=bJ) gc hx2) @bJ.eq_1 j3 j4))<|(lf)<|(zs) ?_;refine zL y.kinds (λk3=>((y.kinds.take k3).all λn=>!(decide (100<(n.length:Int))))=true) (λk3=>[(1,.ip [ak 3 c aq]),(3,ab k),(4,.ip [ah x.name,ai x.vehicle,ak 3 x.bN bJ]),(5,ab k2),(6,ab k3)]) (λk3=>[]) zH zp ?_;intro k3 hk3 hall3
 by_cases hlt3:k3<y.kinds.length;rotate_left
 ·obtain rfl:k3=y.kinds.length:=by omega
  rw[bb] at hall3
  refine(aA (gr hlt2 (aT (e:=3) (enc:=bJ) gc hx2) @bJ.eq_1 (show decide ((y.kinds.length:Int)<(y.kinds.length:Int))=false by simp)))<|(gh)<|(aA (zi hlt2 hlen2)) ?_;refine zX hlt2 zH (gE hx2 hall2 (by rw[hky,hall3]))
 have hd3:=show decide ((k3:Int)<(y.kinds.length:Int))=true by simp only[wp];omega
 obtain⟨z,hx3⟩:∃z,y.kinds[k3]?=some z:=⟨y.kinds[k3],jp hlt3⟩
 refine(aA (gr hlt2 (aT (e:=3) (enc:=bJ) gc hx2) @bJ.eq_1 hd3))<|(gz) ?_
 cases j5:decide (100<(z.length:Int));rotate_left
 ·exact(aA (He hlt2 (aT (e:=3) (enc:=bJ) gc hx2) @bJ.eq_1 hlt3 (aT (e:=1) (enc:=aG ah) gc hx3) @aG.eq_1 j5))<|(cL)<|zo [.tmp 2] (hq:=by rw[hbad (hbad2 (by rw[hky];exact iq (al hx3) (by rw[j5];rfl)))])
 refine(aA (He hlt2 (aT (e:=3) (enc:=bJ) gc hx2) @bJ.eq_1 hlt3 (aT (e:=1) (enc:=aG ah) gc hx3) @aG.eq_1 j5))<|(zN)<|(aA (zi hlt3 hlen3)) ?_;refine zX hlt3 zH (gE hx3 hall3 (by rw[j5];rfl))
structure TN (e:bC):Prop where
 part:∀b∈e.part,b<256
 kind:∀b∈e.kind,b<256
 bu:∀b∈e.bu,b<256
 slot:∀b∈e.slot,b<256
 key:∀b∈e.key,b<256
 value:∀b∈e.value,b<256
def Nb{c:List aU}(h:sU c=true)(hb:∀k∈c,(∀b∈k.name,b<256)/\∀s∈k.bN,∀b∈s.name,b<256):mu c:=by
 unfold sU at h;simp only[cb,dc,wn,all_eq_true] at h
 have hk:∀k∈c,k.name.length<=100/\k.bN.length<=15/\∀s∈k.bN,s.name.length<=100/\s.kinds.length<=15:=λk hk=>by
  have:=h.2 k hk;unfold nU at this;simp only[cb,dc,wn,all_eq_true] at this;refine⟨by omega,by omega,λs hs=>?_⟩;have:=this.2.2 s hs;unfold pM at this;simp only[cb,dc,wn] at this;omega
 exact⟨by omega,λk h1=>⟨⟨by have:=hk k h1;omega,(hb k h1).1⟩,by have:=hk k h1;omega⟩,λk h1 s hs=>⟨⟨by have:=(hk k h1).2.2 s hs;omega,(hb k h1).2 s hs⟩,by have:=(hk k h1).2.2 s hs;omega⟩⟩
end Go.Proofs
namespace Go.Ev
open Go.RowKit Go.ChangeShapes Go.WideShapes Go.Deep
noncomputable section
mutual
def EP:DV->SV
 | .fl a=>.a a
 | .sl _ n e cs=>.sl n e (eL cs)
 | .ag cs=>.ag (eL cs)
def eL:List DV->List SV
 | []=>[]
 | d::ds=>EP d::eL ds
end
def ES:∀a b:List DV,eL (a++b)=eL a++eL b
 | [],b=>rfl
 | d::a,b=>by rw[cons_append,eL,eL,ES a b,cons_append]
def Ii(h:H):jY:=λid=>if id<h.next then h.aV.get id else none
def Qt(h:H):Mi (Ii h) h:=by
 intro id ob hi;unfold Ii at hi;split at hi
 ·rename_i hl;exact⟨hl,hi⟩
 ·cases hi
def Oc{h:H}{id:Nat}{row:List AV}(hl:id<h.next)(hr:rM h.aV id=some row):vl (Ii h) id=some row:=by
 unfold vl Ii;rw[ut hl];unfold rM at hr
 cases hg:h.aV.get id with
 | none=>rw[hg] at hr;cases hr
 | some o=>
  rw[hg] at hr
  cases o<;>first | exact hr | cases hr
mutual
def Dp.gs{s:Bool}{h:H}:∀{d:DV} {a:AV},Dp s h d a->GS (Ii h) (EP d) a
 | .fl a0,a,hd=>by
  rw[Sy] at hd;rw[EP,GS];exact hd.1
 | .sl nl n e cs,a,hd=>by
  rw[Ji] at hd;rw[EP,GS]
  rcases hd with⟨h1,h2,⟨o,e',c,h3,h4,h5⟩,_⟩ | ⟨_,id,off,cap,row,aS,e1,h1,h2,h3,h4,h5⟩
  ·subst h2;exact .inl ⟨h1,by rw[eL],o,e',c,by rw[h3],h4,h5⟩
  ·exact .inr ⟨id,off,cap,row,e1,Oc h1 h2,h3,by rw[<-h4];exact Ed.gs h5⟩
 | .ag cs,a,hd=>by
  rw[Sx] at hd;obtain⟨aS,e1,h1⟩:=hd;rw[EP,GS];exact⟨aS,e1,Ed.gs h1⟩
def Ed.gs{s:Bool}{h:H}:∀{ds:List DV} {aS:List AV},Ed s h ds aS->jO (Ii h) (eL ds) aS
 | [],aS,hd=>by rw[O2] at hd;rw[eL,jO];exact hd
 | d::ds,aS,hd=>by
  rw[Md] at hd;obtain⟨a,r,e1,h1,h2⟩:=hd;rw[eL,jO];exact⟨a,r,e1,Dp.gs h1,Ed.gs h2⟩
end
def RO{P:Program}(hng:sE P){f:FuncId}{fn:Func}(hf:P.funcs[f]?=some fn)(hb:fn.body.isSome=true){w:World}{ds:List DV}{args':Array Value}(hw:ni w ds args'.toList)
 (hc:PC P f (eL ds) (·=.a (.bool true))):Calls P f args' w λe w'=>e=.returned (.bool true)/\Below w.heap.size w w':=by
 obtain⟨σ,k1,k2⟩:=hw.lay;have hd:=ni.dp (rows:=(eR ds 0).2) hw 0 (λi r hr=>by rw[fx];exact hr);have hfine:=hc (Ii _) _ _ (Qt _) hd.gs σ w args' k1 k2;rw[ec hng hf hb] at hfine;refine Calls.mono hfine λe w' ⟨x,he,a,h',⟨r,ρ',hr,_,_,hg⟩,σ',hV,hr',hE⟩=>?_;subst hr;rw[GS] at hg;subst hg;cases hV;exact⟨he,HE hE⟩
end
end Go.Ev
namespace Go.Proofs
open Go.Ev
set_option maxRecDepth 100000
abbrev i6:Ty:=.int .i64
def KW:List Ty:=[i6,i6,.str,.str,.str,.str,.str,.str,.st [.st [i6,i6],.st [i6,i6],.st [i6,i6]]]
def Im:List Ty:=[.str,.sl .str,i6]
def uY:List Ty:=[.str,.bool,.sl (.st Im)]
def ox:Nat->Ty
 | 0=>.no 3
 | 1=>.st [.no 1,.no 1,.no 1]
 | j+2=>.st [i6,i6,.sl (ox j)]
def sh:∀j,(ox j).size=3
 | 0=>rfl
 | 1=>rfl
 | j+2=>rfl
def mS{α:Type}(enc:α->List SV)(ok:α->Prop):∀{rows:List (List DV)},(∀r∈rows,∃x,eL r=enc x/\ok x)->∃xs:List α,xs.length=rows.length/\eL rows.flatten=xs.flatMap enc/\∀x∈xs,ok x
 | [],_=>⟨[],rfl,rfl,λx hx=>by cases hx⟩
 | r::rows,h=>by
  obtain⟨x,h1,h2⟩:=h r e4;obtain⟨xs,h3,h4,h5⟩:=mS enc ok (rows:=rows) λq hq=>h q (d6 _ hq);refine⟨x::xs,by rw[i7,i7,h3],by rw[List.flatten_cons,ES,h1,h4,flatMap_cons],λy hy=>?_⟩
  rcases t7 hy with rfl | hy
  ·exact h2
  ·exact h5 y hy
def nq{α:Type}{enc:α->List SV}{nl:Bool}{e:Nat}{rows:List (List DV)}{xs:List α}(h1:xs.length=rows.length)(h2:eL rows.flatten=xs.flatMap enc):EP (.sl nl rows.length e rows.flatten)=ak e xs enc:=by
 rw[EP,h2,ak,h1]
section
variable {B:Nat} {ds:List DV}
def SL(hk:dY B KW ds):∃e:bC,eL ds=ar e/\TN e:=by
 unfold KW at hk;obtain⟨a1,r,rfl,_,hk⟩:=dJ hk;obtain⟨a2,r,rfl,_,hk⟩:=dJ hk;obtain⟨s1,r,rfl,b1,_,hk⟩:=c7 hk;obtain⟨s2,r,rfl,b2,_,hk⟩:=c7 hk;obtain⟨s3,r,rfl,b3,_,hk⟩:=c7 hk;obtain⟨s4,r,rfl,b4,_,hk⟩:=c7 hk;obtain⟨s5,r,rfl,b5,_,hk⟩:=c7 hk;obtain⟨s6,r,rfl,b6,_,hk⟩:=c7 hk;have hk:dY B [.st [i6,i6],.st [i6,i6],.st [i6,i6]] r:=tC hk;have hk:dY B [i6,i6,.st [i6,i6],.st [i6,i6]] r:=tC hk;obtain⟨u1,r,rfl,_,hk⟩:=dJ hk;obtain⟨u2,r,rfl,_,hk⟩:=dJ hk;have hk:dY B [i6,i6,.st [i6,i6]] r:=tC hk;obtain⟨u3,r,rfl,_,hk⟩:=dJ hk;obtain⟨u4,r,rfl,_,hk⟩:=dJ hk;have hk:dY B [i6,i6] r:=tC hk;obtain⟨u5,r,rfl,_,hk⟩:=dJ hk;obtain⟨u6,r,rfl,_,hk⟩:=dJ hk;have:=gQ hk;subst this;exact⟨⟨a1,a2,s1,s2,s3,s4,s5,s6,u1,u2,u3,u4,u5,u6⟩,by simp only[eL,EP,ar],⟨b1,b2,b3,b4,b5,b6⟩⟩
def Sb(hk:kn B .str ds):∃s:List Nat,eL ds=aG ah s/\∀b∈s,b<256:=by
 rw[kn] at hk;obtain⟨s,rfl,h1,_⟩:=hk;exact⟨s,by simp only[eL,EP,aG],h1⟩
def Qx(hk:dY B Im ds):∃s:jS,eL ds=bJ s/\∀b∈s.name,b<256:=by
 unfold Im at hk;obtain⟨s1,r,rfl,b1,_,hk⟩:=c7 hk;obtain⟨nl,rows,r,rfl,_,hr,hk⟩:=iu hk;obtain⟨a2,r,rfl,_,hk⟩:=dJ hk;have:=gQ hk;subst this;obtain⟨xs,h1,h2,_⟩:=mS (aG ah) (λs=>∀b∈s,b<256) λr hrr=>Sb (hr r hrr);exact⟨⟨s1,xs,a2⟩,by simp only[eL,nq h1 h2,bJ];rfl,b1⟩
def PN(hk:dY B uY ds):∃k:aU,eL ds=aq k/\((∀b∈k.name,b<256)/\∀s∈k.bN,∀b∈s.name,b<256):=by
 unfold uY at hk;obtain⟨s1,r,rfl,b1,_,hk⟩:=c7 hk;obtain⟨v,r,rfl,hk2⟩:=Ln hk;obtain⟨nl,rows,r,rfl,_,hr,hk⟩:=iu hk2;have:=gQ hk;subst this;obtain⟨xs,h1,h2,h3⟩:=mS bJ (λs=>∀b∈s.name,b<256) λr hrr=>Qx (by have:=hr r hrr;rw[kn] at this;exact this);exact⟨⟨s1,v,xs⟩,by simp only[eL,nq h1 h2,aq];rfl,b1,h3⟩
def Ni(hB:B<=r9):∀(j:Nat) {ds:List DV},kn B (ox j) ds->∃f:bE,eL ds=aE f/\kF f
 | 0,ds,h=>by
  rw[ox,kn] at h;exact h.elim
 | 1,ds,h=>by
  rw[ox,kn,dY] at h;obtain⟨_,_,_,h,_⟩:=h;rw[kn] at h;exact h.elim
 | j+2,ds,h=>by
  rw[ox,kn] at h;obtain⟨a1,r,rfl,_,hk⟩:=dJ h;obtain⟨a2,r,rfl,_,hk⟩:=dJ hk;obtain⟨nl,rows,r,rfl,hl,hr,hk⟩:=iu hk;have:=gQ hk;subst this;obtain⟨xs,h1,h2,h3⟩:=mS aE kF λr hrr=>Ni hB j (hr r hrr);refine⟨.mk a1 a2 xs,?_,.mk i4 h3⟩;rw[dr,sh];simp only[eL,EP,nq h1 h2,h2,h1]
end
def Oy{B:Nat}(hB:B<=r9){j:Nat}{ds:List DV}(hk:dY B [.st [.sl (.st uY)],ox j] ds):∃(c:List aU) (f:bE),eL ds=ak 3 c aq::aE f/\kF f/\∀k∈c,(∀b∈k.name,b<256)/\∀s∈k.bN,∀b∈s.name,b<256:=by
 have hk:dY B [.sl (.st uY),ox j] ds:=tC hk;obtain⟨nl,rows,r,rfl,hl,hr,hk⟩:=iu hk;rw[dY] at hk;obtain⟨d1,d2,rfl,h1,h2⟩:=hk;rw[dY] at h2;subst h2;obtain⟨f,h3,h4⟩:=Ni hB j h1;obtain⟨xs,k1,k2,k3⟩:=mS aq (λk=>(∀b∈k.name,b<256)/\∀s∈k.bN,∀b∈s.name,b<256) λr hrr=>PN (by have:=hr r hrr;rw[kn] at this;exact this);exact⟨xs,f,by rw[eL,nq k1 k2,a9,h3];rfl,h4,k3⟩
noncomputable def io(L:Nat->Prop)(i:Nat)(x y:SO):SO:=@ite _ (L i) (Classical.propDecidable _) x y
def CM{L:Nat->Prop}{i:Nat}{x y:SO}(h:L i):io L i x y=x:=ut h
def yo{L:Nat->Prop}{i:Nat}{x y:SO}(h:¬L i):io L i x y=y:=v6 h
def lS(L:Nat->Prop)(i k:Nat)(x y:SO):io (λj=>L j\/j=i) k x y=if k=i then x else io L k x y:=by
 by_cases h:k=i
 ·rw[ut h];exact CM (.inr h)
 ·rw[v6 h];by_cases hl:L k
  ·rw[CM hl,CM (.inl hl)]
  ·rw[yo hl,yo λh'=>h'.elim hl h]
def PM(o:Nat)(L:Nat->Prop)(i:Nat)(x y:SO):bI o (io L i x y)=io L i (bI o x) (bI o y):=by
 unfold io;split<;>rfl
def Ri(r:Nat->Nat)(L:Nat->Prop)(i:Nat)(x y:SO):pJ r (io L i x y)=io L i (pJ r x) (pJ r y):=by
 unfold io;split<;>rfl
def qO(e:bC):jo:=⟨e.u1,e.u2,e.u3,e.u4,e.u5,e.u6⟩
def wR(u:jo)(d:Int×Int)(p:ao):ao:={ p with l1:=(fj jK p.l1 p.l2 u.u1 u.u2).1,l2:=(fj jK p.l1 p.l2 u.u1 u.u2).2,l3:=(fj jK p.l3 p.l4 u.u3 u.u4).1,l4:=(fj jK p.l3 p.l4 u.u3 u.u4).2,l5:=(fj jK p.l5 p.l6 d.1 d.2).1,l6:=(fj jK p.l5 p.l6 d.1 d.2).2 }
def Ah(dmg:bE)(ins:List (List Nat))(e:bC)(p:ao):ao:=if ins.contains p.name=true then wR (qO e) (qU dmg (qO e)) p else p
def G8(dmg:bE)(ps:List ao)(e:bC):List ao:=ps.map (Ah dmg (fQ ps e.part++[e.part]) e)
def oO(c:List aU)(dmg:bE):Nat->List bC->List ao->List ao×Int×Int
 | _,[],s=>(s,-1,0)
 | i,e::r,s=>if (aX c s e).2=0 then (if e.op=4 then oO c dmg (i+1) r (G8 dmg (aX c s e).1 e) else oO c dmg (i+1) r (aX c s e).1) else ([],(i:Int),(aX c s e).2)
def fe(day:Int)(e:bC):Bool:=decide (day<e.day)
def runN(c:List aU)(dmg:bE)(l:List bC)(day:Int):List ao×Int×Int:=if (qe c&&iB dmg)=true then oO c dmg 0 (eJ (dV (fe day) l)) [] else ([],-1,1)
def Tb(r:List ao×Int×Int):SV:=.cA [.ag [ak 14 r.1 ae],ab r.2.1,ab r.2.2]
def fq.TZ{p:ao}(h:fq p)(u:jo)(d:Int×Int):fq (wR u d p):=⟨h.name,h.kind,h.bu,h.slot,h.len,h.prop⟩
def FZ{l:List ao}{x p:ao}(h:p∈df l x):p=x\/p∈l:=by
 unfold df at h;split at h
 ·rcases cv h with h | h
  ·exact .inr h
  ·exact .inl h
 ·rcases List.mem_append.1 h with h | h
  ·exact .inr (d8 h)
  ·rcases t7 h with h | h
   ·exact .inl h
   ·exact .inr (d7 h)
def F0{l:List bO}{x p:bO}(h:p∈nB l x):p=x\/p∈l:=by
 unfold nB at h;split at h
 ·rcases cv h with h | h
  ·exact .inr h
  ·exact .inl h
 ·rcases List.mem_append.1 h with h | h
  ·exact .inr (d8 h)
  ·rcases t7 h with h | h
   ·exact .inl h
   ·exact .inr (d7 h)
def FY(l:List ao)(x:ao):(df l x).length<=l.length+1:=by
 unfold df;split
 ·rw[dE];omega
 ·rw[li,i7,a7,e5];omega
def Ic{l:List ao}{x:ao}:df l x≠[]:=by
 unfold df;split
 ·rename_i h;intro e;have e2:=rc List.length e;rw[dE] at e2;have e3:l=[]:=t8 e2;subst e3;simp[ou] at h
 ·simp
def ti:fi []:=⟨cf _,λb hb=>by cases hb⟩
def HJ(c:List aU)(ps:List ao)(e:bC)(hps:∀p∈ps,fq p)(he:lK e):(∃p,aX c ps e=(df ps p,0)/\fq p)\/∃k,aX c ps e=([],k)/\k≠0:=by
 have hget:∀name p,pq ps (nL 0 [] ps) name=some p->fq p:=by
  intro name p h;unfold pq at h;split at h
  ·exact hps p (al h)
  ·cases h
 unfold aX;split
 ·split
  ·split
   ·unfold BC;split
    ·exact .inr ⟨3,rfl,by decide⟩
    ·split
     ·exact .inr ⟨4,rfl,by decide⟩
     ·split
      ·exact .inr ⟨7,rfl,by decide⟩
      ·exact .inl ⟨_,rfl,⟨he.part,he.kind,ti,ti,by simp[rm],λx hx=>by simp[rm] at hx⟩⟩
   ·split
    ·rename_i p h hp hh;have hpo:=hget _ _ hp;split
     ·exact .inr ⟨5,rfl,by decide⟩
     ·unfold jV;simp only
      repeat' split
      all_goals first
       | exact .inr ⟨_,rfl,by decide⟩
       | exact .inl ⟨p,rfl,hpo⟩
       | exact .inl ⟨_,rfl,⟨hpo.name,hpo.kind,he.bu,he.slot,hpo.len,hpo.prop⟩⟩
       | exact .inl ⟨_,rfl,⟨hpo.name,hpo.kind,ti,ti,hpo.len,hpo.prop⟩⟩
       | exact .inl ⟨_,rfl,⟨hpo.name,hpo.kind,hpo.bu,hpo.slot,hpo.len,hpo.prop⟩⟩
       | (
        refine .inl ⟨_,rfl,⟨hpo.name,hpo.kind,hpo.bu,hpo.slot,?_,?_⟩⟩
        ·rename_i hle;show(nB p.props ⟨e.key,e.value⟩).length<=_;omega
        ·intro x hx
         rcases F0 hx with rfl | hx
         ·exact⟨he.key,he.value⟩
         ·exact hpo.prop x hx)
    ·exact .inr ⟨2,rfl,by decide⟩
  ·exact .inr ⟨1,rfl,by decide⟩
 ·exact .inr ⟨1,rfl,by decide⟩
variable{ps:List ao}
def ot{c:List aU}{e:bC}(hps:∀p∈ps,fq p)(he:lK e):(∀p∈(aX c ps e).1,fq p)/\(aX c ps e).1.length<=ps.length+1/\((aX c ps e).2=0->(aX c ps e).1≠[])/\((aX c ps e).2≠0->(aX c ps e).1=[]):=by
 rcases HJ c ps e hps he with⟨p,h,hp⟩ | ⟨k,h,hk⟩
 ·rw[h];refine⟨λq hq=>?_,FY _ _,λ_=>Ic,λh=>un rfl h⟩
  rcases FZ hq with rfl | hq
  ·exact hp
  ·exact hps q hq
 ·rw[h];exact⟨λq hq=>by simp at hq,cf _,λh=>un h hk,λ_=>rfl⟩
def xp{dmg:bE}{e:bC}(hps:∀p∈ps,fq p):(∀p∈G8 dmg ps e,fq p)/\(G8 dmg ps e).length=ps.length:=by
 refine⟨λp hp=>?_,af _⟩;obtain⟨q,hq,rfl⟩:=mem_map.1 hp;unfold Ah;split
 ·exact(hps q hq).TZ _ _
 ·exact hps q hq
def vT(e:bC)(day:Int):PC aa 46 [.ag (ar e),.ip [ab day]] (·=ai (fe day e)):=by
 refine pB 8 Tryz.func46 ?_;exact(aA @ar.eq_1)<|(zV)<|zo [.tmp 3]
def gF(B:Nat)(l:List (List Nat)):mz B (eY l)=true:=by
 unfold eY;split
 ·rfl
 ·rw[mz];exact bQ (aD (λ_=>rfl) l)
def ft(B e n:Nat):dF (B+1) (cx 0 e n)=true:=by
 unfold cx;split
 ·exact gi rfl
 ·rw[dF];exact wl (Nat.succ_pos B)
def Nn:∀(n:Nat) (r:jv) (ls:List (List Nat)),(dR n r ls).length<=r.length
 | 0,_,_=>cf _
 | n+1,r,ls=>by
  rw[dR];split
  ·exact cf _
  ·rw[li,af];have h1:=Nn n (r.filter λe=>!ls.contains e.2) ((r.filter λe=>ls.contains e.2).map (·.1));have h2:=yO (λe:List Nat×List Nat=>ls.contains e.2) r;omega
def mH(ps:List ao)(part:List Nat):(fQ ps part).length<=ps.length:=by
 unfold fQ;split
 ·have h1:(ee (dR (ps.length+2) (Ob ps part) [part])).length=(dR (ps.length+2) (Ob ps part) [part]).length:=(rU _).length_eq;rw[h1];refine b7 (Nn _ _ _) (b7 xU (b7 (b9 _ _) ?_));have:=Ch ps 0 [];simpa using this
 ·exact cf _
def Df(l:List bC)(d:bC->Bool):(eJ (dV d l)).length<=l.length:=by
 rw[eJ,ym];exact b0 _ _
def xm{l:List bC}{d:bC->Bool}{e:bC}(h:e∈eJ (dV d l)):e∈l:=(mem_filter.1 ((uT _ _).mem_iff.1 h)).1
abbrev eT(e:bC):List SV:=[ah e.part,ah e.kind,ah e.bu,ah e.slot,ah e.key,ah e.value,ab e.u1,ab e.u2,ab e.u3,ab e.u4,ab e.u5,ab e.u6]
abbrev eA(e:bC):List SV:=[ab e.op,ab e.day,ah e.part,ah e.kind,ah e.bu,ah e.slot,ah e.key,ah e.value,ab e.u1,ab e.u2,ab e.u3,ab e.u4,ab e.u5,ab e.u6]
abbrev wE(c:List aU)(dmg:bE)(e:bC)(ev:List bC)(k:Nat):Fm:=[(3,.ip (ak 3 c aq::aE dmg)),(6,.ptr 0 0),(10,.ptr 1 0),(12,.ip (eA e)),(34,ak 14 ev ar),(35,ab ev.length),(36,ab k)]
abbrev wF(c:List aU)(dmg:bE)(e:bC)(ev:List bC)(k:Nat)(I:List (List Nat))(d:Int×Int)(n k2:Nat):Fm:=[(3,.ip (ak 3 c aq::aE dmg)),(6,.ptr 0 0),(10,.ptr 1 0),(12,.ip (eA e)),(15,ak 1 I (aG ah)),(16,.ip [ab d.1,ab d.2]),(34,ak 14 ev ar),(35,ab ev.length),(36,ab k),(77,ab n),(78,ab k2)]
def I3(c:List aU)(dmg:bE)(l:List bC)(day:Int)(hc:mu c)(hf:gC dmg)(hlen:l.length<20)(hl:∀e∈l,lK e):PC aa 14 [.ag (ak 3 c aq::aE dmg),ak 14 l ar,ab day] (·=Tb (runN c dmg l day)):=by
 have hfl:(aE dmg).length=3:=eX dmg;have hft:(aE dmg).take 3=aE dmg:=a8 (by rw[hfl];exact ay _);have hfk:=λo:Nat=>bU (o:=o) (aY dmg);have hfn:=λo:Nat=>cr (o:=o) (aY dmg);refine pB 101 Tryz.func14 ?_;refine(aA (bx hfk hfn)) ?_;refine zZ [(1,ak 14 l ar),(3,.ip (ak 3 c aq::aE dmg)),(5,.ptr 1 0),(6,.ptr 2 0),(7,ab 0),(8,ab 0)] 0 rfl ⟨.inl rfl,.inr (.ptr rfl (cC.refl (aY dmg)) (cf _)),zj⟩ ?_
 (try change aF _ _ _ _ _)
 refine(zC)<|(zK (nI c hc)) ?_
 cases h1:qe c
 ·refine(zR)<|(cL)<|(zE) ?_;exact zO [.cell 6 46,.tmp 7,.tmp 8] (r:=.cA [.ag [.sl 0 14 []],ab (-1),ab 1]) (hw:=zv) (hq:=by (try simp only[ez,bK]);first | done | (rw[show runN c dmg l day=([],-1,1) by simp[runN,h1]];rfl))
 refine(L5 (bx hfl hft))<|(zK (qM dmg hf) (hwk:=cC.cons (.ag (cC.refl (aY dmg))) .nil)) ?_
 cases h2:Proofs.iB dmg
 ·refine(zR)<|(cL)<|(zE) ?_;exact zO [.cell 6 46,.tmp 7,.tmp 8] (r:=.cA [.ag [.sl 0 14 []],ab (-1),ab 1]) (hw:=zv) (hq:=by (try simp only[ez,bK]);first | done | (rw[show runN c dmg l day=([],-1,1) by simp[runN,h1,h2]];rfl))
 refine(zR)<|(zN) ?_
 have hN:runN c dmg l day=oO c dmg 0 (eJ (dV (fe day) l)) []:=by rw[runN,h1,h2];rfl
 refine zA [(1,ak 14 l ar),(3,.ip (ak 3 c aq::aE dmg)),(5,.ptr 1 0),(6,.ptr 2 0)] [.gone,.cells [ab day],.cells [.a (.slice none 0 0 (some 0))]] zH ?_;clear h1 h2;obtain⟨kp,hkp⟩:∃kp,kp=dV (fe day) l:=⟨_,rfl⟩
 have hkl:kp.length<=l.length:=by rw[hkp];exact Ff _ _
 rw[<-hkp] at hN
 (repeat refine aF.seq ?_)
 refine aF.mono (Q:=λe st=>e=.normal/\Fg st ⟨[(3,.ip (ak 3 c aq::aE dmg)),(6,.ptr 0 0),(9,ak 14 kp ar)],101,[.cells [.a (.slice none 0 0 (some 0))]],[]⟩) ?_ ?_
 ·by_cases hne:l=[]
  ·subst hne;have hk0:kp=[]:=hkp;subst hk0;refine(zC) ?_;refine zS [] (bx hfk hfn) rV ?_;refine(zQ) ?_;refine zS [1] (bx hfk hfn) (zx 46 [ab day] rfl (fe day) (λx=>vT x day)) ?_;refine(zR) ?_;refine⟨rfl,?_⟩;refine Fg.trans (b:=⟨[(3,.ip (ak 3 c aq::aE dmg)),(6,.ptr 2 0),(9,ak 14 [] ar)],101,[.gone,.gone,.cells [.a (.slice none 0 0 (some 0))]],[]⟩) ?_ (Fg.rn (f':=[(3,.ip (ak 3 c aq::aE dmg)),(6,.ptr 0 0),(9,ak 14 [] ar)]) (n:=101) (S':=[.cells [.a (.slice none 0 0 (some 0))]]) [2] g9 rfl (by (simp only[si,gx,bL,ak,bq (aY dmg)])<;>(repeat' apply a4)<;>first | trivial | exact .inl rfl | exact .inr rfl | exact .inr trivial | exact .inl trivial) (by (simp only[cN,gx,bL,ak,bq (aY dmg)])<;>(repeat' apply a4)<;>first | rfl | trivial));exact Fg.trans (Fg.wk (f':=[(3,.ip (ak 3 c aq::aE dmg)),(6,.ptr 2 0),(9,ak 14 [] ar)]) ⟨.inl rfl,.inl rfl,.inr (.Ss 14),trivial⟩) zH
  ·have hne0:¬l.length=0:=λh=>hne (t8 h);have hrq:∀(r:Nat->Nat) (q:List bC),mM r (q.flatMap ar)=q.flatMap ar:=λr q=>bq (aD bY q);have hbq:∀(B:Nat) (q:List bC),iG B (q.flatMap ar)=true:=λB q=>bQ (aD bY q);have hkq:=bF bY;have hdel:=zy 46 [ab day] rfl (fe day) (λx=>vT x day) l i4;rw[<-hkp] at hdel;obtain⟨q,hq⟩:∃q,q=kp++dd (l.length-kp.length) bC.zero:=⟨_,rfl⟩
   have hqt:(q.flatMap ar).take (kp.length*14)=kp.flatMap ar:=by
    rw[jf cK,hq,bd (ay _),a8 (ay _)]
   have hql:(q.flatMap ar).length=l.length*14:=by rw[bg cK,hq,li,List.length_replicate];congr 1;omega
   rw[<-hq] at hdel;refine(zC) ?_;refine zS [] (na hfk hfn hrq hbq hkq) (rW l i4 hne) ?_;refine(zQ) ?_;refine zS [4,1] (na hfk hfn hrq hbq hkq) hdel ?_;refine(zR) ?_;refine⟨rfl,?_⟩;refine Fg.trans (b:=⟨[(3,.ip (ak 3 c aq::aE dmg)),(6,.ptr 2 0),(9,ak 14 kp ar)],101,[.gone,.gone,.cells [.a (.slice none 0 0 (some 0))]],[]⟩) ?_ (Fg.rn (f':=[(3,.ip (ak 3 c aq::aE dmg)),(6,.ptr 0 0),(9,ak 14 kp ar)]) (n:=101) (S':=[.cells [.a (.slice none 0 0 (some 0))]]) [2] g9 rfl (by (simp only[si,gx,bL,ak,bq (aY dmg)])<;>(repeat' apply a4)<;>first | trivial | exact .inl rfl | exact .inr rfl | exact .inr trivial | exact .inl trivial) (by (simp only[cN,gx,bL,ak,bq (aY dmg)])<;>(repeat' apply a4)<;>first | rfl | trivial));exact Fg.trans (Fg.freeze (f':=[(3,.ip (ak 3 c aq::aE dmg)),(6,.ptr 2 0),(9,ak 14 kp ar)]) 4 rfl gt ⟨.inl rfl,.inl rfl,.inr (.buf rfl (by rw[hqt];exact cC.refl (aD bY _)) (by rw[hql];exact Nat.mul_le_mul_right 14 hkl)),trivial⟩) zH
 rintro e st ⟨rfl,hfg⟩;refine aF.fg hfg ?_;clear hfg
 (try change aF _ _ _ _ _)
 have hkm:∀e∈eJ kp,lK e:=λe he=>hl e (by rw[hkp] at he;exact xm he)
 have hsl:(eJ kp).length<20:=by have:=Df l (fe day);rw[<-hkp] at this;omega
 refine(jn)<|(zK (vZ kp i4) (hfl:=.inr (cC.refl (by rw[bV,ak,mh,bV];rfl)))) ?_
 generalize eJ kp=ev at hN hkm hsl;refine(zR) ?_
 have hlen1:ev.length<=1000000:=by omega
 refine zA [(3,.ip (ak 3 c aq::aE dmg)),(6,.ptr 0 0),(10,.ptr 1 0),(34,ak 14 ev ar),(35,ab ev.length),(36,ab 0)] [.cells [.a (.slice none 0 0 (some 0))],.cells [.a (.slice none 0 0 (some 0))]] zH ?_;refine aF.fg (Fg.Tp (S':=[.cells [.a (.slice none 0 0 (some 0))],.cells [ak 14 ([]:List ao) ae]]) ⟨.inr ⟨by decide,.inl rfl⟩,.inr ⟨by decide,.inr ⟨_,_,rfl,rfl,.cons (.nil _) .nil⟩⟩,trivial⟩) ?_
 (try change aF _ _ _ _ _)
 refine(zs) ?_;refine Jg ev (λk (ps:List ao)=>(oO c dmg 0 ev []=oO c dmg k (ev.drop k) ps/\(∀p∈ps,fq p)/\ps.length<=k)) (λk ps=>[(3,.ip (ak 3 c aq::aE dmg)),(6,.ptr 0 0),(10,.ptr 1 0),(34,ak 14 ev ar),(35,ab ev.length),(36,ab k)]) (λk ps=>[.cells [.a (.slice none 0 0 (some 0))],.cells [ak 14 ps ae]]) ([]) zH (by exact⟨rfl,(λp hp=>by cases hp),ay _⟩) ?_;intro k ps hk hall;refine zT ev k ?_ ?_;rintro rfl;rotate_left;intro e hx hlt;rotate_left
 ·refine(gh) ?_;obtain⟨hr,_,_⟩:=hall;rw[cl] at hr
  refine(zV)<|(zE) ?_;exact zO [.cell 6 46,.tmp 7,.tmp 8] (r:=.cA [.ag [ak 14 ps ae],ab (-1),ab 0]) (hw:=zv) (hq:=by (try simp only[ez,bK]);first | done | (rw[hN,hr];rfl))
 obtain⟨hr,hps,hpl⟩:=hall;rw[eW hx] at hr;have heo:=hkm e (al hx);have hap:=zm c ps e hc i4 hps heo;obtain⟨q1,q2,q3,q4⟩:=ot (c:=c) hps heo
 have hr2:oO c dmg k (e::ev.drop (k+1)) ps=if (aX c ps e).2=0 then (if e.op=4 then oO c dmg (k+1) (ev.drop (k+1)) (G8 dmg (aX c ps e).1 e) else oO c dmg (k+1) (ev.drop (k+1)) (aX c ps e).1) else ([],(k:Int),(aX c ps e).2):=rfl
 rw[hr2] at hr;clear hr2;obtain⟨nx,er,hne⟩:∃nx er,aX c ps e=(nx,er):=⟨_,_,rfl⟩;rw[hne] at hap q1 q2 q3 q4 hr;simp only at q1 q2 q3 q4 hr;rw[dz] at hap
 refine(gz)<|(aA (cO hlt (aT (e:=14) (enc:=ar) gc hx) @dz)) ?_;refine zZ [(3,.ip (ak 3 c aq::aE dmg)),(6,.ptr 0 0),(10,.ptr 1 0),(11,ab k),(12,.ip (eA e)),(34,ak 14 ev ar),(35,ab ev.length),(36,ab k)] 2 rfl (gm @ak.eq_1) ?_
 (try change aF _ _ _ _ _)
 refine(zC)<|(zK hap (hfl:=.inr zr))<|(cP @j6.eq_1) ?_
 by_cases herr:er=0;rotate_left
 ·rw[v6 herr] at hr;have hnil:=q4 herr
  refine(aA (wd herr))<|(cL)<|(zE) ?_;exact zO [.cell 6 46,.tmp 7,.tmp 8] (r:=.cA [.ag [.sl 0 14 []],ab k,ab er]) (hw:=zv) (hq:=by (try simp only[ez,bK]);first | done | (rw[hN,hr];rfl))
 rw[ut herr] at hr;subst herr
 refine(Ec)<|(zV) ?_
 by_cases hop:e.op=4;rotate_left
 ·rw[v6 hop] at hr
  refine(aA (wd hop))<|(zY) ?_;refine aF.exit ?_
  (try change aF _ _ _ _ _)
  refine(aA (zi hlt hlen1)) ?_;refine xu hlt (nx) zH (⟨hr,q1,by omega⟩)
 rw[ut hop] at hr
 refine(aA (wl hop))<|(zN)<|zA (wE c dmg e ev k) [.cells [.a (.slice none 0 0 (some 0))],.cells [ak 14 nx ae]] zH ?_
 obtain⟨ins,hins⟩:∃ins,ins=fQ nx e.part:=⟨_,rfl⟩
 have hinl:ins.length<=100000:=by rw[hins];exact b7 (mH nx e.part) i4
 (repeat refine aF.seq ?_)
 refine aF.za 7 12 (λL=>⟨(58,vo L 0 (.ag [ak 14 nx ae]))::(59,vo L 1 (.ip (eT e)))::(60,vo L 2 (ah e.part))::(61,vo L 3 (cx 2 1 ins.length))::(62,vo L 4 (.ip (eT e)))::(63,vo L 5 (ah e.part))::(64,vo L 6 (.buf 3 1 1 (some 1)))::wE c dmg e ev k,101,[.cells [.a (.slice none 0 0 (some 0))],.cells [ak 14 nx ae],wo L 3 (eY ins),wo L 6 (.cells [ah e.part])],[]⟩) rfl zW ii g9 zW (cm (bx @xq @D8)) (λL=>rfl) ?_ ?_
 ·rintro L i o him hC hr
  rcases i with _ | _ | _ | _ | _ | _ | _ | i
  rotate_right
  ·exact un him i4
  ·cases hr.jr;refine(zR) ?_;exact(cm (bx @bz @fp))
  ·cases hr.jr;refine(zR) ?_;exact(cm (bx @bz @fp))
  ·cases hr.jr;have d1:L 1:=hr.dep ⟨1,.data⟩ ge rfl;refine(cP (iK d1)) ?_;exact(cm (cO @bz @fp (iK d1)))
  ·cases hr.jr;have d0:L 0:=hr.dep ⟨0,.data⟩ ge rfl;have d2:L 2:=hr.dep ⟨2,.data⟩ ge rfl;have hn3:¬L 3:=hr.new;have hin:=qI nx e.part i4;rw[<-hins] at hin;refine aK.sk [] ii rfl rfl ii rfl (Ef (bx (iK d0) (iK d2))) (hin) (by simp only[gx,bL,ak,↓reduceIte,ac,aj,bh,ap,ad,am,cJ d0,cJ d2,↓lV,de,hfk,hfn,cF (show 2≠4 by decide),fw,dK,eK,ft,gF,gg hn3];first | done | rfl) rfl g9 (by simp only[CH,gx,bL,ak,cJ d0,cJ d2,↓lV,de,hfk,hfn,cF (show 2≠4 by decide),fw,dK,eK,ft,gF,gg hn3]<;>(repeat' apply a4)<;>first | trivial | rfl | (intro hh;cases hh)) (by simp only[BV,gx,bL,ak,aj,am,decide_true,cJ d0,cJ d2,↓lV,de,hfk,hfn,cF (show 2≠4 by decide),fw,dK,eK,ft,gF,gg hn3];first | done | rfl) (by simp only[BV,gx,bL,ak,aj,am,decide_true,cJ d0,cJ d2,↓lV,de,hfk,hfn,cF (show 2≠4 by decide),fw,dK,eK,ft,gF,gg hn3];first | done | rfl) (by simp only[gx,bL,ak,↓reduceIte,ac,aj,bh,ap,ad,am,cJ d0,cJ d2,↓lV,de,hfk,hfn,cF (show 2≠4 by decide),fw,dK,eK,ft,gF,gg hn3];first | done | rfl) (by simp only[gx,bL,ak,↓reduceIte,ac,aj,bh,ap,ad,am,cJ d0,cJ d2,↓lV,de,hfk,hfn,cF (show 2≠4 by decide),fw,dK,eK,ft,gF,gg hn3,bZ,cy,bI,aO,cN];first | done | rfl) (by simp only[gx,bL,ak,↓reduceIte,ac,aj,bh,ap,ad,am,cJ d0,cJ d2,↓lV,de,hfk,hfn,cF (show 2≠4 by decide),fw,dK,eK,ft,gF,gg hn3,bZ,cy,bI,aO,cN];first | done | rfl) ?_;refine .nil ?_;exact((Fg.rn (f':=(58,(.ag [ak 14 nx ae]))::(59,vo L 1 (.ip (eT e)))::(60,(ah e.part))::(61,(cx 2 1 ins.length))::(62,vo L 4 (.ip (eT e)))::(63,vo L 5 (ah e.part))::(64,vo L 6 (.buf 3 1 1 (some 1)))::wE c dmg e ev k) (n:=101) (S':=[.cells [.a (.slice none 0 0 (some 0))],.cells [ak 14 nx ae],eY ins,wo L 6 (.cells [ah e.part])]) [0,1,4,3] g9 rfl (by (simp only[si,gx,bL,ak,yR,BO,eK,dK,bq (aY dmg),de,cF (show 2≠4 by decide)])<;>(repeat' apply a4)<;>first | trivial | exact .inl rfl | exact .inr rfl | exact .inr trivial | exact .inl trivial) (by (simp only[cN,gx,bL,ak,yR,BO,eK,dK,bq (aY dmg),de,cF (show 2≠4 by decide)])<;>(repeat' apply a4)<;>first | rfl | trivial))).trans (cm (gr @bz @fp (iK d0) (iK d2)))
  ·cases hr.jr;refine(zR) ?_;exact(cm (bx @bz @fp))
  ·cases hr.jr;have d4:L 4:=hr.dep ⟨4,.data⟩ ge rfl;refine(cP (iK d4)) ?_;exact(cm (cO @bz @fp (iK d4)))
  ·cases hr.jr;have d5:L 5:=hr.dep ⟨5,.data⟩ ge rfl;have hn6:¬L 6:=hr.new;refine aK.r0 ii (by simp only[cN,bL,ak,aB,m7,m6,↓reduceIte,ac,aj,ap,ad,am,an,au,bn,cJ d5,↓lV,de,hfk,hfn,cF (show 2≠4 by decide),fw,gg hn6];first | done | rfl) ?_;exact((Fg.rn (f':=(58,vo L 0 (.ag [ak 14 nx ae]))::(59,vo L 1 (.ip (eT e)))::(60,vo L 2 (ah e.part))::(61,vo L 3 (cx 2 1 ins.length))::(62,vo L 4 (.ip (eT e)))::(63,(ah e.part))::(64,(.buf 3 1 1 (some 1)))::wE c dmg e ev k) (n:=101) (S':=[.cells [.a (.slice none 0 0 (some 0))],.cells [ak 14 nx ae],wo L 3 (eY ins),.cells [ah e.part]]) [0,1,2,4] g9 rfl (by (simp only[si,gx,bL,ak,yR,BO,eK,dK,bq (aY dmg),de,cF (show 2≠4 by decide)])<;>(repeat' apply a4)<;>first | trivial | exact .inl rfl | exact .inr rfl | exact .inr trivial | exact .inl trivial) (by (simp only[cN,gx,bL,ak,yR,BO,eK,dK,bq (aY dmg),de,cF (show 2≠4 by decide)])<;>(repeat' apply a4)<;>first | rfl | trivial))).trans (cm (cO @bz @fp (iK d5)))
 change aK _ _ _ _ _ _;refine aK.mono (K:=λx=>Fg x ⟨(65,.buf 2 (ins.length+1) 1 none)::wE c dmg e ev k,101,[.cells [.a (.slice none 0 0 (some 0))],.cells [ak 14 nx ae],.cells ((ins++[e.part]).flatMap (aG ah))],[]⟩) ?_ λx hx=>?_
 ·have v7:∀i,i<7->∀v:SV,vo (λj=>j<7) i v=v:=λi h v=>cJ h;have w7:∀i,i<7->∀v:SO,wo (λj=>j<7) i v=v:=λi h v=>oa h;have a3:=v7 3 g9;have a6:=v7 6 g9;have b3:=w7 3 g9;have b6:=w7 6 g9;have happ:=mb (enc:=aG ah) (e:=1) gc (λ_=>rfl) 2 ins e.part;rw[show aG ah e.part=[ah e.part] from rfl,bk] at happ;have hcl:=bg (enc:=aG ah) (e:=1) gc ins;by_cases hi0:ins=[]
  ·subst hi0;refine(cP (MM a3 a6 b3 b6 @lA @i5.{0} @gR hfk hfn @de)) ?_;exact((Fg.rn (f':=(65,.buf 2 1 1 none)::wE c dmg e ev k) (n:=101) (S':=[.cells [.a (.slice none 0 0 (some 0))],.cells [ak 14 nx ae],.cells [ah e.part]]) [0,1,4] g9 rfl (by (simp only[si,gx,bL,ak,bq (aY dmg)])<;>(repeat' apply a4)<;>first | trivial | exact .inl rfl | exact .inr rfl | exact .inr trivial | exact .inl trivial) (by (simp only[cN,gx,bL,ak,bq (aY dmg)])<;>(repeat' apply a4)<;>first | rfl | trivial))).trans (cm (na @aG.eq_1 @nil_append.{0} @flatMap_cons.{0,0} @flatMap_nil.{0,0} @i5.{0}))
  ·have hil:¬ins.length=0:=λh=>hi0 (t8 h);refine(cP (bx (OV a3 a6 b3 b6 (en (o:=2) (e:=1) hil) (fV hi0) hfk hfn @de) (xO (λo:Nat=>bF (enc:=aG ah) gc o ins) hcl @bk @ay (show ins.length<=1000000 by omega) happ))) ?_;exact zH
 change aK _ _ _ _ _ _;refine aK.fg hx ?_;refine(zR) ?_;change aF _ _ _ _ _;refine zA ((15,.buf 2 (ins.length+1) 1 none)::wE c dmg e ev k) [.cells [.a (.slice none 0 0 (some 0))],.cells [ak 14 nx ae],.cells ((ins++[e.part]).flatMap (aG ah))] zH ?_;obtain⟨I,hI⟩:∃I,I=ins++[e.part]:=⟨_,rfl⟩
 have hIl:I.length=ins.length+1:=by rw[hI,li];rfl
 rw[<-hI];refine zZ [(3,.ip (ak 3 c aq::aE dmg)),(6,.ptr 0 0),(10,.ptr 1 0),(12,.ip (eA e)),(15,ak 1 I (aG ah)),(34,ak 14 ev ar),(35,ab ev.length),(36,ab k)] 2 rfl ⟨.inl rfl,.inl rfl,.inl rfl,.inl rfl,.inr (by rw[qG 1 I (aG ah),hIl];exact .buf rfl (by rw[<-hIl,eD (enc:=aG ah) (e:=1) gc];exact cC.refl (aD (λ_=>rfl) _)) (by rw[bg (enc:=aG ah) (e:=1) gc,hIl];exact ay _)),zj⟩ ?_
 (try change aF _ _ _ _ _)
 have hd:=Gl dmg (qO e) hf;simp only[eg,qO] at hd;obtain⟨d,hdd⟩:∃d,d=qU dmg (qO e):=⟨_,rfl⟩;have hdd2:qU dmg ⟨e.u1,e.u2,e.u3,e.u4,e.u5,e.u6⟩=d:=hdd.symm;rw[hdd2] at hd
 refine(e9 (bx hfl hft))<|(zK hd (hwk:=cC.cons (.ag (cC.refl (aY dmg))) (.cons (.ag zr) .nil)))<|(cP (gr @od.eq_1 @kT.eq_1 hfk hfn)) ?_
 have hnn:=q3 rfl;have hn0:0<nx.length:=co λh=>hnn (t8 h);have hrq:∀(r:Nat->Nat) (q:List ao),mM r (q.flatMap ae)=q.flatMap ae:=λr q=>bq (aD dA q);have hbq:∀(B:Nat) (q:List ao),iG B (q.flatMap ae)=true:=λB q=>bQ (aD dA q);have hkq:=bF (enc:=ae) dA
 refine(zC) ?_;refine zS [] (na hfk hfn hrq hbq hkq) (pV nx i4 hnn) ?_;refine(zR)<|(zV)<|zA [(3,.ip (ak 3 c aq::aE dmg)),(6,.ptr 0 0),(10,.ptr 1 0),(12,.ip (eA e)),(15,ak 1 I (aG ah)),(16,.ptr 3 0),(34,ak 14 ev ar),(35,ab ev.length),(36,ab k),(76,.buf 5 nx.length 14 none),(77,ab nx.length),(78,ab 0)] [.cells [.a (.slice none 0 0 (some 0))],.cells [.buf 5 nx.length 14 none],.gone,.cells [ab d.1,ab d.2],.gone,.cells (nx.flatMap ae)] zH ?_;refine zZ (wF c dmg e ev k I d nx.length 0) 3 rfl (gm @ak.eq_1) ?_;refine zA (wF c dmg e ev k I d nx.length 0) [.cells [.a (.slice none 0 0 (some 0))],.cells [.buf 2 nx.length 14 none],.cells (nx.flatMap ae)] (Fg.rn [0,1,5] g9 rfl (by (simp only[si,gx,bL,ak,hrq,bq (aY dmg)])<;>(repeat' apply a4)<;>first | trivial | exact .inl rfl | exact .inr rfl | exact .inr trivial | exact .inl trivial) (by (simp only[cN,gx,bL,ak,hrq,bq (aY dmg)])<;>(repeat' apply a4)<;>first | rfl | trivial)) ?_
 have hIu:G8 dmg nx e=nx.map (Ah dmg I e):=by unfold G8;rw[hI,hins]
 have hnl:nx.length<=1000000:=by omega
 refine(zs) ?_;refine zL nx (λk2=>True) (λk2=>(wF c dmg e ev k I d nx.length k2)) (λk2=>[.cells [.a (.slice none 0 0 (some 0))],.cells [.buf 2 nx.length 14 none],.cells ((((nx.take k2).map (Ah dmg I e))++nx.drop k2).flatMap ae)]) (cm (gr @List.take_zero.{0} @map_nil.{0,0} @drop_zero.{0} @nil_append.{0})) zp ?_;intro k2 hk2 hall2;refine zT nx k2 ?_ ?_;rintro rfl;rotate_left;intro p hx2 hlt2;rotate_left
 ·refine(gh) ?_;rw[bb,cl,a9,<-hIu];obtain⟨r1,r2⟩:=xp (dmg:=dmg) (e:=e) q1;generalize G8 dmg nx e=ux at hr r1 r2;refine aF.fg (Fg.lP (f':=[(3,.ip (ak 3 c aq::aE dmg)),(6,.ptr 0 0),(10,.ptr 1 0),(12,.ip (eA e)),(15,ak 1 I (aG ah)),(34,ak 14 ev ar),(35,ab ev.length),(36,ab k)]) (S':=[.cells [.a (.slice none 0 0 (some 0))],.cells [ak 14 ux ae]]) 2 rfl gt (gm @ak.eq_1) ⟨.inr ⟨by decide,.inl rfl⟩,.inr ⟨by decide,.inr ⟨_,_,rfl,rfl,.cons (by rw[qG 14 ux ae,r2];exact .buf rfl (by rw[<-r2,eD (enc:=ae) (e:=14) gc];exact cC.refl (aD dA _)) (by rw[bg (enc:=ae) (e:=14) gc,r2];exact ay _)) .nil⟩⟩,trivial⟩) ?_
  (try change aF _ _ _ _ _)
  refine(aA (zi hlt hlen1)) ?_;refine xu hlt (ux) zH (⟨hr,r1,by omega⟩)
 have hdrop:=eW hx2;obtain⟨q,hq⟩:∃q,q=(nx.take k2).map (Ah dmg I e)++nx.drop k2:=⟨_,rfl⟩
 have hqx:q[k2]?=some p:=by
  rw[hq,List.getElem?_append_right (by rw[af,a7];omega),af,a7,cn i4,ck,hdrop];rfl
 have hql:q.length=nx.length:=by rw[hq,li,af,a7,e5];omega
 have hqc:(q.flatMap ae).length=nx.length*14:=by rw[bg (enc:=ae) (e:=14) gc,hql]
 have hnext:((nx.take (k2+1)).map (Ah dmg I e)++nx.drop (k2+1))=q.set k2 (Ah dmg I e p):=by
  rw[hq,c9 hx2,ct,hdrop,List.set_append_right _ _ (by rw[af,a7];omega),af,a7,cn i4,ck,List.set_cons_zero,ch];rfl
 have hcell:(q.flatMap ae)[k2*14]?=some (ah p.name):=by
  have h1:((q.flatMap ae).drop (k2*14)).take 14=ae p:=aT (e:=14) (enc:=ae) gc hqx;have h2:=rc (λl=>l[0]?) h1;simp only[c6,c5,ba] at h2;exact h2
 rw[<-hq]
 refine(gz)<|(zV)<|(e9 (cO hlt2 @ba hcell))<|(zK (iy I p.name i4) (hwk:=cC.cons (.sl _ _ _) (.cons (.a _) .nil))) ?_
 cases hcn:I.contains p.name
 ·have hup:Ah dmg I e p=p:=by unfold Ah;rw[hcn];rfl
  rw[hup] at hnext
  have hset:q.set k2 p=q:=by
   apply List.ext_getElem?;intro j;by_cases hj:k2=j
   ·subst hj;rw[List.getElem?_set_self (br hqx),hqx]
   ·rw[List.getElem?_set_ne hj]
  rw[hset] at hnext
  refine(zR)<|(zN)<|(aA (zi hlt2 hnl)) ?_;refine zX hlt2 (cm hnext) trivial
 refine(zR)<|(zY) ?_
 have hup:Ah dmg I e p=wR (qO e) d p:=by unfold Ah;rw[hcn,<-hdd];rfl
 obtain⟨A,hA⟩:∃A,A=(q.take k2).flatMap ae++[ah p.name,ah p.kind,ah p.bu,ah p.slot,ab p.made,ab p.since,ai p.cM,ak 2 p.props aI]:=⟨_,rfl⟩;obtain⟨B,hB⟩:∃B,B=(q.drop (k2+1)).flatMap ae:=⟨_,rfl⟩
 have hkl:k2<q.length:=by omega
 have hAl:A.length=k2*14+8:=by rw[hA,li,bg (enc:=ae) (e:=14) gc,a7,cn i4];rfl
 have hqs:q.take k2++(p::q.drop (k2+1))=q:=by rw[<-eW hqx,List.take_append_drop]
 have hsplit:q.flatMap ae=A++(By p.l1 p.l2 p.l3 p.l4 p.l5 p.l6++B):=by
  rw[hA,hB,ch]
  conv=>lhs;rw[<-hqs,bi,flatMap_cons]
  rfl
 have hset:(q.set k2 (wR (qO e) d p)).flatMap ae=A++(Nx p.l1 p.l2 p.l3 p.l4 p.l5 p.l6 (qO e) d.1 d.2++B):=by
  rw[hA,hB,ch,ca,ut hkl,bi,flatMap_cons];rfl
 rw[hup] at hnext;have hla:=DM A B p.l1 p.l2 p.l3 p.l4 p.l5 p.l6 (qO e) d.1 d.2 (by rw[<-hsplit];exact aD dA q);rw[<-hsplit,<-hset,hAl] at hla;simp only[eg,qO,kT] at hla;refine aF.za 8 9 (λL=>⟨(89,vo L 0 (.ptr 1 0))::(90,vo L 1 (.buf 2 nx.length 14 none))::(91,vo L 2 (ab k2))::(92,vo L 3 (.ptr 2 (k2*14)))::(93,vo L 4 (.ptr 2 (k2*14+8)))::(94,vo L 5 (.ip [ab e.u1,ab e.u2,ab e.u3,ab e.u4,ab e.u5,ab e.u6]))::(95,vo L 6 (.ag [ab e.u1,ab e.u2,ab e.u3,ab e.u4,ab e.u5,ab e.u6]))::(96,vo L 7 (.ag [ab d.1,ab d.2]))::(17,ab k2)::wF c dmg e ev k I d nx.length k2,101,[.cells [.a (.slice none 0 0 (some 0))],.cells [.buf 2 nx.length 14 none],.cells (q.flatMap ae)],[]⟩) rfl zW ii g9 zW (cm @xq) (λL=>rfl) ?_ ?_
 ·rintro L i o him hC hr
  rcases i with _ | _ | _ | _ | _ | _ | _ | _ | i
  rotate_right
  ·exact un him i4
  ·cases hr.jr;refine(zR) ?_;exact(cm @bz)
  ·cases hr.jr;have d0:L 0:=hr.dep ⟨0,.data⟩ ge rfl;refine(cP (iK d0)) ?_;exact(cm (bx @bz (iK d0)))
  ·cases hr.jr;refine(zR) ?_;exact(cm @bz)
  ·cases hr.jr;have d1:L 1:=hr.dep ⟨1,.data⟩ ge rfl;have d2:L 2:=hr.dep ⟨2,.data⟩ ge rfl;refine(cP (cO (iK d1) (iK d2) hlt2)) ?_;exact(cm (cO @bz (iK d1) (iK d2)))
  ·cases hr.jr;have d3:L 3:=hr.dep ⟨3,.data⟩ ge rfl;refine(cP (bx (iK d3) hqc)) ?_;exact(cm (bx @bz (iK d3)))
  ·cases hr.jr;refine(zR) ?_;exact(cm @bz)
  ·cases hr.jr;have d5:L 5:=hr.dep ⟨5,.data⟩ ge rfl;refine(cP (iK d5)) ?_;exact(cm (bx @bz (iK d5)))
  ·cases hr.jr;refine(zR) ?_;exact(cm @bz)
 have v8:∀i,i<8->∀v:SV,vo (λj=>j<8) i v=v:=λi h v=>cJ h;have v84:=v8 4 g9;have v86:=v8 6 g9;have v87:=v8 7 g9;change aK _ _ _ _ _ _;refine oA ((93,.ptr 2 (k2*14+8))::(95,.ag [ab e.u1,ab e.u2,ab e.u3,ab e.u4,ab e.u5,ab e.u6])::(96,.ag [ab d.1,ab d.2])::wF c dmg e ev k I d nx.length k2) [.cells [.a (.slice none 0 0 (some 0))],.cells [.buf 2 nx.length 14 none],.cells (q.flatMap ae)] (cm (cO v84 v86 v87)) ?_;refine zS [2] (na hfk hfn hrq hbq hkq) hla ?_;refine(zR) ?_;simp only[qO] at hnext;refine(aA (zi hlt2 hnl)) ?_;refine zX hlt2 (cm hnext) trivial
def vY(day fr:Int)(hd:0<=day/\day<=40000):PC aa 275 [ab day,ab fr] (·=.ag [ab (gq day fr),ab (gq day fr)]):=by
 refine pB 19 Tryz.func275 ?_;refine(zV) ?_;cases g:decide (day<=fr)
 ·have hg:=wt g
  have hs:gq day fr=day-(if day-1000000000000<=fr then fr else day-1000000000000):=by rw[gq,v6 hg]
  have hm:eF fr (day-1000000000000)=if day-1000000000000<=fr then fr else day-1000000000000:=rfl
  rw[<-hm] at hs
  have hb:fr<=eF fr (day-1000000000000)/\day-1000000000000<=eF fr (day-1000000000000)/\eF fr (day-1000000000000)<=40000:=by unfold eF;split<;>omega
  rw[hs];have hx:=fk fr (day-1000000000000);generalize eF fr (day-1000000000000)=m at hb hx
  exact(aA g)<|(zN)<|(aA (cO (QQ (P:=aa) (t:=3) (show -9223372036854775808<=day-1000000000000/\day-1000000000000<=9223372036854775807 from⟨by omega,by omega⟩)) hx (QQ (P:=aa) (t:=3) (show -9223372036854775808<=day-m/\day-m<=9223372036854775807 from⟨by omega,by omega⟩))))<|(zV)<|zo [.cell 4 52]
 ·have hs:gq day fr=0:=by rw[gq,ut (ww g)]
  rw[hs]
  exact(aA g)<|(cL)<|zo [.cell 4 52]
def LK(p:ao)(day:Int)(hd:0<=day/\day<=40000):PC aa 280 [.ag (ae p),ab day,.ip [.fn 275 [] []]] (·=.ag [ab (gq day p.made),ab (gq day p.made)]):=by
 refine pB 11 Tryz.func280 ?_;exact(aA @ae.eq_1)<|(zC)<|(zK (vY day p.made hd))<|(zR)<|zo [.cell 5 52]
abbrev Rl:=List (List Nat×SV)
def oT{S:List SO}{o:Nat}{l:Rl}(s:List Nat)(u:SV)(hS:S[o]?=some (bH AV.str id l)):ij aa S 288 (.map o) (.a (.str s)) u=some (S.set o (bH AV.str id (cD s u l))):=
 Ie (uv:=id) (kt:=9) (et:=286) (by simp only[aB]) l8 hS rfl u
def Co:SV:=.ip [.fn 275 [] []]
def nf:Rl:=cD [97,103,101] (.fn 280 [] [Co]) (cD [100,97,121,115] (.fn 279 [] [Co]) (cD [100,97,109,97,103,101] (.fn 278 [] []) (cD [99,121,99,108,101,115] (.fn 277 [] []) (cD [107,109] (.fn 276 [] []) []))))
def ku:PC aa 220 [] (·=lR AV.str id nf):=by
 refine pB 6 Tryz.func220 ?_;refine(og) ?_;refine zZ [(1,.ip [.fn 275 [] []])] 0 rfl zG<|zA [(1,.ip [.fn 275 [] []])] [] zH ?_
 have hm0:SO.map [] [] none=bH AV.str (id:SV->SV) []:=rfl;have p1:=λu=>oT (S:=[bH AV.str id []]) (o:=0) (l:=[]) [107,109] u rfl;have p2:=λ(l:Rl) u=>oT (S:=[bH AV.str id l]) (o:=0) (l:=l) [99,121,99,108,101,115] u rfl;have p3:=λ(l:Rl) u=>oT (S:=[bH AV.str id l]) (o:=0) (l:=l) [100,97,109,97,103,101] u rfl;have p4:=λ(l:Rl) u=>oT (S:=[bH AV.str id l]) (o:=0) (l:=l) [100,97,121,115] u rfl;have p5:=λ(l:Rl) u=>oT (S:=[bH AV.str id l]) (o:=0) (l:=l) [97,103,101] u rfl
 refine(aA (He hm0 p1 p2 p3 p4 p5 @List.set_cons_zero.{0}))<|(zE) ?_;exact A8.of (rs:=[.tmp 0]) (r:=lR AV.str id nf) rfl rfl zl (by exact .map rfl zr) zq
def kD{S:List SO}{l:Rl}(s:List Nat)(ok:Bool):iZ aa S 288 (lR AV.str id l) (.a (.str s)) ok=some (cond ok (.cA [getM (ua (.ef)) s l,ai (dG s l)]) (getM (ua (.ef)) s l)):=
 Q3 (uv:=id) (u0:=ua (.ef)) (k:=s) (kt:=9) (et:=286) (z:=.ef) (by simp only[aB]) l8 zW rfl rfl ok
def cY(ps:List ao)(name:List Nat):Option ao:=ps.find? λp=>decide (p.name=name)
def Nf{name:List Nat}{k:Nat}{p:ao}(hx:ps[k]?=some p)(hp:p.name=name)(hb:((ps.take k).all λp=>!(decide (p.name=name)))=true):cY ps name=some p:=by
 unfold cY;rw[List.find?_eq_some_iff_getElem];obtain⟨hlt,he⟩:=rt hx;refine⟨by simpa using hp,k,hlt,he,λj hj=>?_⟩;have h1:=all_eq_true.1 hb (ps[j]' i4) (by rw[mem_iff_getElem?];exact⟨j,by rw[c6,ut hj];exact jp i4⟩);simpa using h1
def Ng{name:List Nat}(hb:(ps.all λp=>!(decide (p.name=name)))=true):cY ps name=none:=by
 unfold cY;rw[List.find?_eq_none];intro p hp;have h1:=all_eq_true.1 hb p hp;simpa using h1
def Hd:List SV:=[ah [],ah [],ah [],ah [],ab 0,ab 0,ai false,aR,ab 0,ab 0,ab 0,ab 0,ab 0,ab 0]
def iA(ps:List ao)(name:List Nat)(hlen:ps.length<=1000000):PC aa 15 [.ag [ak 14 ps ae],ah name] (·=iU ae ao.zero (cY ps name)):=by
 refine pB 22 Tryz.func15 ?_;refine(zV) ?_;refine zZ [(1,ah name),(2,.ip [ak 14 ps ae]),(4,.ptr 1 0)] 0 rfl (gm @ak.eq_1) ?_
 (try change aF _ _ _ _ _)
 refine(zV)<|(zs) ?_;refine zL ps (λk=>((ps.take k).all λp=>!(decide (p.name=name)))=true) (λk=>[(1,ah name),(4,.ptr 1 0),(9,ak 14 ps ae),(10,ab ps.length),(11,ab k)]) (λk=>[.gone,.cells Hd]) (cm @Hd.eq_1) zp ?_;intro k hk hall;refine zT ps k ?_ ?_;rintro rfl;rotate_left;intro p hx hlt;rotate_left
 ·refine(gh) ?_;rw[bb] at hall;rw[Ng hall]
  exact(aA @Hd.eq_1)<|jW [.cell 4 56,.tmp 5] (r:=.cA [.ag (ae ao.zero),ai false]) (hw:=.cA (.cons (.ag (.cons (.a _) (.cons (.a _) (.cons (.a _) (.cons (.a _) (.cons (.a _) (.cons (.a _) (.cons (.a _) (.cons (.nil 2) zr))))))))) zr))
 refine(gz)<|(aA (gr hlt (aT (e:=14) (enc:=ae) gc hx) @ae.eq_1 @Hd.eq_1)) ?_
 cases he:decide (p.name=name)
 ·refine(aA he)<|(zN)<|(aA (zi hlt hlen)) ?_;refine zX hlt (cm (bx @ae.eq_1 @Hd.eq_1)) (by rw[c9 hx,dv,hall];show(true&&(!(decide (p.name=name))&&true))=true;rw[he];rfl)
 ·rw[Nf hx (ww he) hall]
  exact(aA he)<|(zY)<|(aA @ae.eq_1)<|jW [.cell 4 56,.tmp 5]
inductive aZ where
 | mk (op:Int) (name value:List Nat) (n extra:Int) (kids:List aZ)
def aZ.op:aZ->Int
 | .mk op _ _ _ _ _=>op
def aZ.name:aZ->List Nat
 | .mk _ name _ _ _ _=>name
def aZ.value:aZ->List Nat
 | .mk _ _ value _ _ _=>value
def aZ.n:aZ->Int
 | .mk _ _ _ n _ _=>n
def aZ.extra:aZ->Int
 | .mk _ _ _ _ extra _=>extra
def aZ.kids:aZ->List aZ
 | .mk _ _ _ _ _ kids=>kids
mutual
def bf:aZ->List SV
 | .mk op name value n extra kids=>[ab op,ah name,ah value,ab n,ab extra,.sl kids.length 6 (qg kids)]
def qg:List aZ->List SV
 | []=>[]
 | f::fs=>bf f++qg fs
end
def vy:∀l:List aZ,qg l=l.flatMap bf
 | []=>by rw[qg];rfl
 | f::l=>by rw[qg,vy l,flatMap_cons]
def gI(op:Int)(name value:List Nat)(n extra:Int)(kids:List aZ):bf (.mk op name value n extra kids)=[ab op,ah name,ah value,ab n,ab extra,.sl kids.length 6 (kids.flatMap bf)]:=by rw[bf,vy]
def jh(f:aZ):(bf f).length=6:=by
 obtain⟨op,name,value,n,extra,kids⟩:=f;rw[gI];rfl
inductive gn:aZ->Prop
 | mk {op:Int} {name value:List Nat} {n extra:Int} {kids:List aZ}:fi name->fi value->kids.length<=1000000->(∀k∈kids,gn k)->gn (.mk op name value n extra kids)
def mn:List (List Nat):=[[116,114,117,101],[110,111,116],[97,110,100],[111,114],[108,105,109,105,116],[111,118,101,114],[104,97,115],[115,108,111,116],[97,108,108],[97,110,121],[97,116]]
def HN(n low:Int):Bool:=decide (low<=n)&&decide (n<=9999999)
structure QM where
 kids:Bool
 named:Bool
 ok:Bool
 value:List Nat
 n:Int
 extra:Int
def Sv(e:aZ):Option QM:=
 let none0:=decide ((e.kids.length:Int)=0)
 if e.op=1 then some ⟨none0,false,true,[],0,0⟩
 else if e.op=2 then some ⟨decide ((e.kids.length:Int)=1),false,true,[],0,0⟩
 else if e.op=3\/e.op=4 then some ⟨decide (1<(e.kids.length:Int)),false,true,[],0,0⟩
 else if e.op=5 then some ⟨none0,true,HN e.n 0&&HN e.extra 0,[],e.n,e.extra⟩
 else if e.op=6 then some ⟨none0,true,HN e.n 0,[],e.n,0⟩
 else if e.op=7 then some ⟨none0,true,!(decide (e.value=[]))&&(decide ((e.value.length:Int)<=200)&&!(mn.contains e.name)),e.value,0,0⟩
 else if e.op=8 then some ⟨none0,true,true,[],0,0⟩
 else if e.op=9 then some ⟨none0,true,cZ e.value,e.value,0,0⟩
 else if e.op=10\/e.op=11 then some ⟨decide ((e.kids.length:Int)=1),true,true,[],0,0⟩
 else if e.op=12 then some ⟨none0,true,HN e.n 1,[],e.n,0⟩
 else none
def FI(q:QM)(e:aZ):Bool:=(q.ok&&(!q.named||cZ e.name))&&(q.kids&&((q.named||decide (e.name=[]))&&(decide (q.value=e.value)&&(decide (q.n=e.n)&&decide (q.extra=e.extra)))))
def iE(e:aZ):Bool:=match Sv e with
 | some q=>FI q e
 | none=>false
mutual
def fz:aZ->List aZ
 | .mk op name value n extra kids=>.mk op name value n extra kids::lZ kids
def lZ:List aZ->List aZ
 | []=>[]
 | k::ks=>fz k++lZ ks
end
def nJ(e:aZ):Bool:=decide ((fz e).length<=60)&&(fz e).all iE
def jM(a:Int):Int:=if a=0\/a=2 then a else 1
def Lm(a:Int):Int:=2-jM a
def Cd(a b:Int):Int:=gl (jM a) (jM b)
def Qm(a b:Int):Int:=eF (jM a) (jM b)
def Ea(b:Bool):Int:=if b=true then 2 else 0
def du(p:ao)(cur:List Nat)(day:Int):(Int×Int)×Int:=
 let v:=λ(x:Int×Int)=>if day<0\/40000<day then (((0,0):Int×Int),(13:Int)) else (x,0)
 if cur=[107,109] then v (p.l1,p.l2) else if cur=[99,121,99,108,101,115] then v (p.l3,p.l4) else if cur=[100,97,109,97,103,101] then v (p.l5,p.l6)
 else if cur=[100,97,121,115] then v (gq day p.since,gq day p.since) else if cur=[97,103,101] then v (gq day p.made,gq day p.made) else ((0,0),15)
def dM(ps:List ao)(name:List Nat):ao:=(cY ps name).getD ao.zero
def ia(ps:List ao)(part kind:List Nat):List (List Nat):=(fQ ps part).filter λn=>decide ((dM ps n).kind=kind)
def Q2(ps:List ao)(day:Int)(op:Int)(name value:List Nat)(n extra:Int)(part:List Nat):Int:=
 let p:=dM ps part
 if op=1 then 2
 else if op=5 then (if (du p name day).2=0 then Lm (oK (du p name day).1.1 (du p name day).1.2 (n+extra)) else 0)
 else if op=6 then (if (du p name day).2=0 then oK (du p name day).1.1 (du p name day).1.2 n else 0)
 else if op=7 then Ea (p.props.any λx=>decide (x.key=name)&&decide (x.value=value))
 else if op=8 then Ea (p.props.any λx=>decide (x.key=name))
 else if op=9 then Ea (ps.any λq=>decide (q.bu=part)&&(decide (q.slot=name)&&decide (q.kind=value)))
 else Ea (decide (n<=((ia ps part name).length:Int)))
mutual
def iN(ps:List ao)(day:Int):aZ->List Nat->Int
 | .mk op name value n extra kids,part=>
  if op=2 then Lm ((Cg ps day kids part).headD 0)
  else if op=3 then (Cg ps day kids part).foldl Cd 2
  else if op=4 then (Cg ps day kids part).foldl Qm 0
  else if op=10 then (O8 ps day kids (ia ps part name)).foldl Cd 2
  else if op=11 then (O8 ps day kids (ia ps part name)).foldl Qm 0
  else Q2 ps day op name value n extra part
def Cg(ps:List ao)(day:Int):List aZ->List Nat->List Int
 | [],_=>[]
 | k::ks,part=>iN ps day k part::Cg ps day ks part
def O8(ps:List ao)(day:Int):List aZ->List (List Nat)->List Int
 | [],_=>[]
 | k::_,names=>names.map λn=>iN ps day k n
end
def qE(ps:List ao):Nat->List Nat->List Nat
 | 0,_=>[]
 | f+1,part=>match cY ps part with
  | none=>[]
  | some p=>if p.bu=[] then part else qE ps f p.bu
def Kj(ps:List ao)(part:List Nat):List Nat:=qE ps ps.length part
def nR(ps:List ao)(e:aZ)(part:List Nat)(day:Int):Int:=if nJ e=true/\Kj ps part≠[] then iN ps day e part else 0
def It(a:Int):0<=jM a/\jM a<=2:=by unfold jM;split<;>omega
def kY(a:Int):PC aa 219 [ab a] (·=ab (jM a)):=by
 refine pB 8 Tryz.func219 ?_;refine(og)<|(zB) ?_
 cases h0:decide (a=0)
 ·cases h2:decide (a=2)
  ·exact(aA h0)<|(zN)<|(aA h2)<|(lf)<|zo [.tmp 2] (hq:=by rw[jM,v6 (λh=>h.elim (wt h0) (wt h2))])
  ·exact(aA h0)<|(zN)<|(aA h2)<|(cL)<|zo [.tmp 2] (hq:=by rw[jM,ut (.inr (ww h2))])
 ·exact(aA h0)<|(zY)<|(zY)<|(zV)<|zo [.tmp 2] (hq:=by rw[jM,ut (.inl (ww h0))])
def B2(a:Int):PC aa 133 [ab a] (·=ab (Lm a)):=by
 refine pB 6 Tryz.func133 ?_;have hb:=It a
 exact(jn)<|(zK (kY a))<|(cP (QQ (P:=aa) (t:=74) (show -9223372036854775808<=2-jM a/\2-jM a<=9223372036854775807 from⟨by omega,by omega⟩)))<|zo [.tmp 2]
def BW(a b:Int):PC aa 134 [ab a,ab b] (·=ab (Cd a b)):=by
 refine pB 10 Tryz.func134 ?_;exact(jn)<|(zK (kY a))<|(zQ)<|(zK (kY b))<|(cP @jc)<|zo [.tmp 4]
def GJ(a b:Int):PC aa 135 [ab a,ab b] (·=ab (Qm a b)):=by
 refine pB 10 Tryz.func135 ?_;exact(jn)<|(zK (kY a))<|(zQ)<|(zK (kY b))<|(cP @fk)<|zo [.tmp 4]
def rF(b:Bool):PC aa 138 [ai b] (·=ab (Ea b)):=by
 refine pB 4 Tryz.func138 ?_;refine(og) ?_;cases b
 ·exact(lf)<|zo [.tmp 2]
 ·exact(cL)<|zo [.tmp 2]
def oR(n low:Int):PC aa 217 [ab n,ab low] (·=ai (HN n low)):=by
 refine pB 12 Tryz.func217 ?_;refine(zV) ?_;cases h1:decide (low<=n)
 ·exact(aA h1)<|zo [.tmp 4] (hq:=by rw[HN,h1];rfl)
 ·exact(aA h1)<|zo [.tmp 4] (hq:=by rw[HN,h1];rfl)
def Ab(s:List Nat):PC aa 218 [ah s] (·=ai (mn.contains s)):=by
 refine pB 6 Tryz.func218 ?_;exact(jn)<|(zK (iy mn s g9) (hwk:=.cons (.buf rfl (cC.refl rfl) g9) (.cons (.a _) .nil)))<|(zR)<|zo [.tmp 2]
def OF(p:ao)(day:Int):PC aa 276 [.ag (ae p),ab day] (·=.ag [ab p.l1,ab p.l2]):=by
 refine pB 8 Tryz.func276 ?_;exact(aA @ae.eq_1)<|(zV)<|zo [.cell 4 52]
def OB(p:ao)(day:Int):PC aa 277 [.ag (ae p),ab day] (·=.ag [ab p.l3,ab p.l4]):=by
 refine pB 8 Tryz.func277 ?_;exact(aA @ae.eq_1)<|(zV)<|zo [.cell 4 52]
def OC(p:ao)(day:Int):PC aa 278 [.ag (ae p),ab day] (·=.ag [ab p.l5,ab p.l6]):=by
 refine pB 8 Tryz.func278 ?_;exact(aA @ae.eq_1)<|(zV)<|zo [.cell 4 52]
def Ix(p:ao)(day:Int)(hd:0<=day/\day<=40000):PC aa 279 [.ag (ae p),ab day,.ip [.fn 275 [] []]] (·=.ag [ab (gq day p.since),ab (gq day p.since)]):=by
 refine pB 11 Tryz.func279 ?_;exact(aA @ae.eq_1)<|(zC)<|(zK (vY day p.since hd))<|(zR)<|zo [.cell 5 52]
abbrev TB(op:Int)(name value:List Nat)(n extra:Int)(kids:List aZ):SV:=.ip [ab op,ah name,ah value,ab n,ab extra,.sl kids.length 6 (kids.flatMap bf)]
abbrev wN(op:Int)(name value:List Nat)(n extra:Int)(kids:List aZ)(kb nb ob:Bool):Fm:=[(1,TB op name value n extra kids),(3,.ptr 0 0),(4,ai kb),(5,ai nb),(7,ai ob)]
def IU(e:aZ)(he:gn e):PC aa 130 [.ag (bf e)] (·=ai (iE e)):=by
 cases he with
 | @mk op name value n extra kids hgn hgv hlen hks=>
 rw[gI]
 refine pB 147 Tryz.func130 ?_;refine(zV) ?_;refine zZ [(1,TB op name value n extra kids)] 0 rfl zG<|zA [(1,TB op name value n extra kids)] [] zH<|(og)<|(og)<|(zV)<|zA ((6,.fn 217 [] [])::(16,ab op)::wN op name value n extra kids (decide ((kids.length:Int)=0)) true true) [.cells [ab op,ah [],ah [],ab 0,ab 0,aR]] zH ?_
 (repeat refine aF.seq ?_)
 refine aF.mono (Q:=λex st=>(ex=.normal/\∃q,Sv (.mk op name value n extra kids)=some q/\Fg st ⟨wN op name value n extra kids q.kids q.named q.ok,147,[.cells [ab op,ah [],ah q.value,ab q.n,ab q.extra,aR]],[]⟩)\/(ex=.ret/\A8 aa Tryz.f130 (·=ai (iE (.mk op name value n extra kids))) .ret st)) ?_ ?_
 ·refine aF.block ?_;cases o1:decide (op=1);rotate_left
  ·have p1:=ww o1
   refine(aA o1)<|(cL) ?_;exact .inl ⟨rfl,⟨decide ((kids.length:Int)=0),false,true,[],0,0⟩,by subst p1;rfl,zH⟩
  have n1:=wt o1
  refine(aA o1)<|(zN) ?_
  cases o2:decide (op=2);rotate_left
  ·have p2:=ww o2
   refine(aA o2)<|(zY)<|(zs) ?_;refine oe [0,1,3,7,0,31] ?_;refine(rH)<|(zM) ?_;exact .inl ⟨rfl,⟨decide ((kids.length:Int)=1),false,true,[],0,0⟩,by subst p2;rfl,zH⟩
  have n2:=wt o2
  refine(aA o2)<|(zN) ?_
  cases o3:decide (op=3);rotate_left
  ·have p3:=ww o3
   refine(aA o3)<|(zY)<|(zY)<|(zs) ?_;refine oe [0,1,3,7,0,31] ?_;refine(rH)<|(zM) ?_;exact .inl ⟨rfl,⟨decide (1<(kids.length:Int)),false,true,[],0,0⟩,by subst p3;rfl,zH⟩
  have n3:=wt o3
  refine(aA o3)<|(zN) ?_
  cases o4:decide (op=4);rotate_left
  ·have p4:=ww o4
   refine(aA o4)<|(zY)<|(zs) ?_;refine oe [0,1,3,7,0,31] ?_;refine(rH)<|(zM) ?_;exact .inl ⟨rfl,⟨decide (1<(kids.length:Int)),false,true,[],0,0⟩,by subst p4;rfl,zH⟩
  have n4:=wt o4
  refine(aA o4)<|(zN) ?_
  cases o5:decide (op=5);rotate_left
  ·have p5:=ww o5
   refine(aA o5)<|(zY) ?_
   cases g:HN n 0
   ·have hc:=oR n 0;rw[g] at hc
    refine(zs) ?_;refine oe [0,1,0,4,0,0,32,112,240,496,496,1520,4080,8176,3,24563,57343,122879,262143] ?_;refine(rH)<|(xv (hc))<|(rH) ?_;refine SD.e ii rfl ii rfl rfl ii zl ?_;refine(rH) ?_;refine SD.e ii rfl ii rfl rfl ii zl ?_;refine(rH)<|(zM) ?_;exact .inl ⟨rfl,⟨decide ((kids.length:Int)=0),true,HN n 0&&HN extra 0,[],n,extra⟩,by subst p5;rfl,by rw[g];exact zH⟩
   ·have hc:=oR n 0;rw[g] at hc
    refine(zs) ?_;refine oe [0,1,0,4,0,0,32,112,240,496,496,1520,4080,8176,3,24563,57343,122879,262143] ?_;refine(rH)<|(xv (hc))<|(rH)<|(xv (oR extra 0))<|(rH) ?_;refine SD.e ii rfl ii rfl rfl ii zl ?_;refine(rH) ?_;refine SD.e ii rfl ii rfl rfl ii zl ?_;refine(rH)<|(zM) ?_;exact .inl ⟨rfl,⟨decide ((kids.length:Int)=0),true,HN n 0&&HN extra 0,[],n,extra⟩,by subst p5;rfl,by rw[g];exact zH⟩
  have n5:=wt o5
  refine(aA o5)<|(zN) ?_
  cases o6:decide (op=6);rotate_left
  ·have p6:=ww o6
   refine(aA o6)<|(zY)<|(zs) ?_;refine oe [0,1,0,0,8,28,3,127,255] ?_;refine(rH)<|(xv (oR n 0))<|(rH) ?_;refine SD.e ii rfl ii rfl rfl ii zl ?_;refine(rH)<|(zM) ?_;exact .inl ⟨rfl,⟨decide ((kids.length:Int)=0),true,HN n 0,[],n,0⟩,by subst p6;rfl,zH⟩
  have n6:=wt o6
  refine(aA o6)<|(zN) ?_
  cases o7:decide (op=7);rotate_left
  ·have p7:=ww o7;cases g1:decide (value=[])
   ·cases g2:decide ((value.length:Int)<=200)
    ·refine(aA o7)<|(zY)<|(zs) ?_;refine oe [0,1,0,4,12,28,60,124,252,508,1020,2044,4092,8188,16380,32764,65532,3,163839,524287] ?_;refine(OZ (bx g1 g2)) ?_;refine SD.e ii rfl ii rfl rfl ii zl ?_;refine(rH)<|(zM) ?_;exact .inl ⟨rfl,⟨decide ((kids.length:Int)=0),true,!(decide (value=[]))&&(decide ((value.length:Int)<=200)&&!(mn.contains name)),value,0,0⟩,by subst p7;rfl,by rw[g1,g2];exact zH⟩
    ·refine(aA o7)<|(zY)<|(zs) ?_;refine oe [0,1,0,4,12,28,60,124,252,508,1020,2044,4092,8188,16380,32764,65532,3,163839,524287] ?_;refine(OZ (bx g1 g2))<|(xv (Ab name))<|(rH) ?_;refine SD.e ii rfl ii rfl rfl ii zl ?_;refine(rH)<|(zM) ?_;exact .inl ⟨rfl,⟨decide ((kids.length:Int)=0),true,!(decide (value=[]))&&(decide ((value.length:Int)<=200)&&!(mn.contains name)),value,0,0⟩,by subst p7;rfl,by rw[g1,g2];exact zH⟩
   ·refine(aA o7)<|(zY)<|(zs) ?_;refine oe [0,1,0,4,12,28,60,124,252,508,1020,2044,4092,8188,16380,32764,65532,3,163839,524287] ?_;refine(OZ g1) ?_;refine SD.e ii rfl ii rfl rfl ii zl ?_;refine(rH)<|(zM) ?_;exact .inl ⟨rfl,⟨decide ((kids.length:Int)=0),true,!(decide (value=[]))&&(decide ((value.length:Int)<=200)&&!(mn.contains name)),value,0,0⟩,by subst p7;rfl,by rw[g1];exact zH⟩
  have n7:=wt o7
  refine(aA o7)<|(zN) ?_
  cases o8:decide (op=8);rotate_left
  ·have p8:=ww o8
   refine(aA o8)<|(zY) ?_;exact .inl ⟨rfl,⟨decide ((kids.length:Int)=0),true,true,[],0,0⟩,by subst p8;rfl,zH⟩
  have n8:=wt o8
  refine(aA o8)<|(zN) ?_
  cases o9:decide (op=9);rotate_left
  ·have p9:=ww o9
   refine(aA o9)<|(zY)<|(zs) ?_;refine oe [0,1,0,4,12,3,63,127] ?_;refine(rH)<|(xv (dW value hgv))<|(rH) ?_;refine SD.e ii rfl ii rfl rfl ii zl ?_;refine(rH)<|(zM) ?_;exact .inl ⟨rfl,⟨decide ((kids.length:Int)=0),true,cZ value,value,0,0⟩,by subst p9;rfl,zH⟩
  have n9:=wt o9
  refine(aA o9)<|(zN) ?_
  cases o10:decide (op=10);rotate_left
  ·have p10:=ww o10
   refine(aA o10)<|(zY)<|(zY)<|(zV) ?_;exact .inl ⟨rfl,⟨decide ((kids.length:Int)=1),true,true,[],0,0⟩,by subst p10;rfl,zH⟩
  have n10:=wt o10
  refine(aA o10)<|(zN) ?_
  cases o11:decide (op=11);rotate_left
  ·have p11:=ww o11
   refine(aA o11)<|(cL) ?_;exact .inl ⟨rfl,⟨decide ((kids.length:Int)=1),true,true,[],0,0⟩,by subst p11;rfl,zH⟩
  have n11:=wt o11
  refine(aA o11)<|(zN) ?_
  cases o12:decide (op=12);rotate_left
  ·have p12:=ww o12
   refine(aA o12)<|(zY)<|(zs) ?_;refine oe [0,1,0,0,8,28,3,127,255] ?_;refine(rH)<|(xv (oR n 1))<|(rH) ?_;refine SD.e ii rfl ii rfl rfl ii zl ?_;refine(rH)<|(zM) ?_;exact .inl ⟨rfl,⟨decide ((kids.length:Int)=0),true,HN n 1,[],n,0⟩,by subst p12;rfl,zH⟩
  have n12:=wt o12
  refine(aA o12)<|(zN) ?_
  have hnone:iE (.mk op name value n extra kids)=false:=by
   unfold iE Sv;simp only[aZ.op,n1,n2,n3,n4,n5,n6,n7,n8,n9,n10,n11,n12,if_false,or_self]
  refine(zV) ?_;refine aF.ret ?_;refine .inr ⟨rfl,?_⟩;exact zO [.tmp 2] (hq:=by (try simp only[ez,bK]);first | done | (rw[hnone]))
 rintro ex st (⟨rfl,q,hq,hf⟩ | ⟨rfl,hs⟩);rotate_left
 ·exact hs
 change aF _ _ _ _ _;refine aF.fg hf ?_;clear hf
 have hres:iE (.mk op name value n extra kids)=FI q (.mk op name value n extra kids):=by unfold iE;rw[hq]
 rw[hres];clear hres hq;obtain⟨kb,nb,ob,v',n',x'⟩:=q;have hM:=dW name hgn;rw[show FI ⟨kb,nb,ob,v',n',x'⟩ (.mk op name value n extra kids)=((ob&&(!nb||cZ name))&&(kb&&((nb||decide (name=[]))&&(decide (v'=value)&&(decide (n'=n)&&decide (x'=extra)))))) from rfl];refine(zV) ?_
 (repeat refine aF.seq ?_)
 refine aF.mono (Q:=λex st=>ex=.normal/\Fg st ⟨[(1,TB op name value n extra kids),(3,.ptr 0 0),(4,ai kb),(7,ai (ob&&(!nb||cZ name)))],147,[.cells [ab op,ah (cond nb name []),ah v',ab n',ab x',aR]],[]⟩) ?_ ?_
 ·cases nb
  ·refine(zN) ?_;exact⟨rfl,by rw[show(ob&&(!false||cZ name))=ob by cases ob<;>rfl];exact zH⟩
  ·cases ob
   ·refine(zY)<|(zs) ?_;refine oe [0,1,0,4,12,28,60,124,3,383,1023] ?_;refine(rH) ?_;refine SD.e ii rfl ii rfl rfl ii zl ?_;refine(rH)<|(zM) ?_;exact⟨rfl,zH⟩
   ·refine(zY)<|(zs) ?_;refine oe [0,1,0,4,12,28,60,124,3,383,1023] ?_;refine(rH)<|(xv (hM))<|(rH) ?_;refine SD.e ii rfl ii rfl rfl ii zl ?_;refine(rH)<|(zM) ?_;exact⟨rfl,zH⟩
 rintro ex st ⟨rfl,hf⟩;refine aF.fg hf ?_;clear hf;change aF _ _ _ _ _
 have hsame:(cond nb name []=name)↔(nb||decide (name=[]))=true:=by cases nb<;>simp[eq_comm]
 generalize (ob&&(!nb||cZ name))=o1;cases o1
 ·exact(zV)<|zo [.tmp 2]
 cases kb
 ·exact(zV)<|zo [.tmp 2]
 cases g1:decide (cond nb name []=name)
 ·have e1:(nb||decide (name=[]))=false:=by
   cases h:(nb||decide (name=[]))
   ·rfl
   ·exact un (hsame.2 h) (wt g1)
  rw[e1]
  exact(aA g1)<|zo [.tmp 2]
 have e1:=hsame.1 (ww g1);rw[e1];cases g2:decide (v'=value)
 ·exact(aA (bx g1 g2))<|zo [.tmp 2]
 cases g3:decide (n'=n)
 ·exact(aA (cO g1 g2 g3))<|zo [.tmp 2]
 ·exact(aA (cO g1 g2 g3))<|zo [.tmp 2]
def cE(x:aZ):bf x=[ab x.op,ah x.name,ah x.value,ab x.n,ab x.extra,.sl x.kids.length 6 (x.kids.flatMap bf)]:=by
 obtain⟨op,name,value,n,extra,kids⟩:=x;exact gI op name value n extra kids
def NH(op:Int)(name value:List Nat)(n extra:Int)(kids:List aZ):fz (.mk op name value n extra kids)=.mk op name value n extra kids::kids.flatMap fz:=by
 rw[fz]
 congr 1
 induction kids with
 | nil=>rfl
 | cons k ks ih=>rw[lZ,ih,flatMap_cons]
def BI(p:aZ->Bool)(e:aZ):(fz e).all p=(p e&&e.kids.all λk=>(fz k).all p):=by
 obtain⟨op,name,value,n,extra,kids⟩:=e;rw[NH,List.all_cons,List.all_flatMap];rfl
variable{e:aZ}
def gn.SX(h:gn e):e.kids.length<=1000000/\∀k∈e.kids,gn k:=by
 cases h with
 | mk _ _ h1 h2=>exact⟨h1,h2⟩
def yu{k:aZ}(h:k∈e.kids):SizeOf.sizeOf k<SizeOf.sizeOf e:=by
 obtain⟨op,name,value,n,extra,kids⟩:=e;have h1:=ci (show k∈kids from h)
 have h2:SizeOf.sizeOf (aZ.mk op name value n extra kids)=1+SizeOf.sizeOf op+SizeOf.sizeOf name+SizeOf.sizeOf value+SizeOf.sizeOf n+SizeOf.sizeOf extra+SizeOf.sizeOf kids:=by simp
 omega
variable{fid:FuncId}{first:List SV}{cap:List SV}
def DF{l:List aZ}(p:aZ->Bool)(hlen:l.length<=1000000)(hp:∀x∈l,PC aa fid ((first++[.ag (bf x)])++cap) (·=ai (p x)))(hg:bV first=true/\bV cap=true):PC aa 274 [ak 6 l bf,.fn fid first cap] (·=ab (fP p l)):=by
 refine pB 19 func274 ?_;refine(aA @ak.eq_1)<|(zV)<|(zs) ?_;refine zL l (λk=>∀(i:Nat) y,i<k->l[i]?=some y->p y=false) (λk=>[(0,.sl l.length 6 (l.flatMap bf)),(1,.fn fid first cap),(7,ab l.length),(8,ab k)]) (λk=>[]) zH zp ?_;intro k hk hall;refine zT l k ?_ ?_;rintro rfl;rotate_left;intro x hx hlt;rotate_left
 ·exact(gh)<|(zV)<|zo [.tmp 4] (hq:=by rw[hY hall])
 ·have hpx0:=hp x (mem_iff_getElem?.2 ⟨k,hx⟩);have hxl:((l.flatMap bf).drop (k*6)).take 6=bf x:=aT jh hx;rw[cE x] at hxl hpx0
  refine(gz)<|(zV)<|(e9 (bx hlt hxl))<|(zK hpx0 (hwk:=((cC.refl hg.1).app zr).app (cC.refl hg.2))) ?_;refine aK.nil ?_
  change aF _ _ _ _ _;cases hpx:p x
  ·refine(zN)<|(aA (zi hlt hlen)) ?_;refine zX hlt zH ?_
   intro i y hi hy;by_cases hik:i=k
   ·subst hik;rw[hx] at hy;cases hy;exact hpx
   ·exact hall i y i4 hy
  ·exact(cL)<|zo [.tmp 4] (hq:=by rw[lQ hx hpx hall])
def Dv{l:List (aZ)}(p:aZ->Bool)(hlen:l.length<=1000000)(hp:∀x∈l,PC aa fid ((first++[.ag (bf x)])++cap) (·=ai (p x)))(hg:bV first=true/\bV cap=true):PC aa 215 [ak 6 l bf,.fn fid first cap] (·=ai (l.any p)):=by
 refine pB 9 func215 ?_;exact(jn)<|(zK (DF p hlen hp hg) (hwk:=.cons (Wk.sl _ _ _) (.cons (.fn (cC.refl hg.1) (cC.refl hg.2)) .nil)))<|(zR)<|zo [.tmp 4] (hq:=by rw[nw])
def Ja(k:aZ)(b:Bool)(ih:PC aa 129 [.ag (bf k),.fn 130 [] []] (·=ai b)):PC aa 216 [.ag (bf k),.ip [.fn 130 [] []]] (·=ai (!b)):=by
 refine pB 8 func216 ?_;rw[cE] at ih ⊢
 exact(jn)<|(zK ih)<|(zR)<|zo [.tmp 3]
def Ag:∀(d:Nat) (e:aZ),SizeOf.sizeOf e<d->gn e->PC aa 129 [.ag (bf e),.fn 130 [] []] (·=ai ((fz e).all iE))
 | 0,e,hd,_=>un hd (ce _)
 | d+1,e,hd,he=>by
  obtain⟨hlen,hks⟩:=he.SX;have hn:=IU e he;have hcof:=Dv (λk=>!((fz k).all iE)) (l:=e.kids) (fid:=216) (first:=[]) (cap:=[.ip [.fn 130 [] []]]) hlen (λk hk=>Ja k _ (Ag d k (by have:=yu hk;omega) (hks k hk))) ⟨rfl,rfl⟩
  have hr:(fz e).all iE=(iE e&&!(e.kids.any λk=>!((fz k).all iE))):=by
   rw[BI,List.not_any_eq_all_not];simp
  rw[hr];refine pB 15 func129 ?_;rw[cE] at hn ⊢
  refine(zV) ?_;refine zZ [(2,.ip [ab e.op,ah e.name,ah e.value,ab e.n,ab e.extra,.sl e.kids.length 6 (e.kids.flatMap bf)]),(3,.ptr 1 0)] 0 rfl zG<|zZ [(2,.ip [ab e.op,ah e.name,ah e.value,ab e.n,ab e.extra,.sl e.kids.length 6 (e.kids.flatMap bf)]),(3,.ip [.fn 130 [] []])] 1 rfl zG<|zA [(2,.ip [ab e.op,ah e.name,ah e.value,ab e.n,ab e.extra,.sl e.kids.length 6 (e.kids.flatMap bf)]),(3,.ip [.fn 130 [] []])] [] zH<|(zC)<|(zK hn) ?_
  cases iE e
  ·exact(zR)<|zo [.tmp 4]
  ·exact(zQ)<|(zK hcof)<|(zR)<|zo [.tmp 4]
mutual
def lM:aZ->Int->Int×Bool
 | .mk _ _ _ _ _ kids,n=>if n+1<=60 then pe kids (n+1) else (n+1,false)
def pe:List aZ->Int->Int×Bool
 | [],n=>(n,true)
 | k::ks,n=>if (lM k n).2=true then pe ks (lM k n).1 else ((lM k n).1,false)
end
def Po(e:aZ)(n:Int):lM e n=if n+1<=60 then pe e.kids (n+1) else (n+1,false):=by
 obtain⟨op,name,value,m,extra,kids⟩:=e;rw[lM];rfl
def Fa:List aZ->Int->Int->Int
 | [],_,_ => -1
 | k::ks,n,j=>if (lM k n).2=true then Fa ks (lM k n).1 (j+1) else j
mutual
def Cr:∀(e:aZ) (n:Int),n<=60->(((lM e n).2=true/\(lM e n).1=n+(fz e).length/\n+(fz e).length<=60)\/((lM e n).2=false/\(lM e n).1=61/\60<n+(fz e).length))
 | .mk op name value m extra kids,n,hn=>by
  have ih:=Jx kids (n+1);rw[lM,fz,i7];split
  ·rename_i h
   rcases ih h with⟨h1,h2,h3⟩ | ⟨h1,h2,h3⟩
   ·exact .inl ⟨h1,by rw[h2];omega,by omega⟩
   ·exact .inr ⟨h1,h2,by omega⟩
  ·exact .inr ⟨rfl,by show n+1=61;omega,by omega⟩
def Jx:∀(l:List aZ) (n:Int),n<=60->(((pe l n).2=true/\(pe l n).1=n+(lZ l).length/\n+(lZ l).length<=60)\/((pe l n).2=false/\(pe l n).1=61/\60<n+(lZ l).length))
 | [],n,hn=>.inl ⟨rfl,by rw[pe,lZ];simp,by rw[lZ];simpa using hn⟩
 | k::ks,n,hn=>by
  have h:=Cr k n hn;rw[pe,lZ,li]
  rcases h with⟨h1,h2,h3⟩ | ⟨h1,h2,h3⟩
  ·rw[ut h1]
   rcases Jx ks (lM k n).1 i4 with⟨i1,i2,i3⟩ | ⟨i1,i2,i3⟩
   ·exact .inl ⟨i1,by rw[i2];omega,by omega⟩
   ·exact .inr ⟨i1,i2,by omega⟩
  ·rw[v6 (by rw[h1];decide)];exact .inr ⟨rfl,h2,by omega⟩
end
def MS(e:aZ):decide ((lM e 0).1<=60)=decide ((fz e).length<=60):=by
 rw[decide_eq_decide]
 rcases Cr e 0 g9 with⟨h1,h2,h3⟩ | ⟨h1,h2,h3⟩<;>omega
def JH:∀(l:List aZ) (n j:Int),0<=j->decide (0<=Fa l n j)=!(pe l n).2
 | [],_,_,_=>rfl
 | k::ks,n,j,hj=>by
  rw[Fa,pe];split
  ·exact JH ks _ _ i4
  ·show decide (0<=j)=true;rw[wp];exact hj
def AY(e:aZ)(n:Int)(hn:0<=n/\n<=60):SC aa 214 [.ag (bf e),.ptr 0 0] [.cells [ab n]] [] (λr S'=>r=ai (decide (n+1<=60))/\S'=[.cells [ab (n+1)]]):=by
 refine Ot 8 Tryz.func214 ?_;rw[cE]
 refine(zV)<|(aA (Ee (P:=aa) (t:=3) (a:=n) (b:=1) i4))<|(zV)<|zA [(3,ai (decide (n+1<=60))),(1000000,.ptr 0 0)] [.cells [ab (n+1)]] zH<|(zE) ?_;exact zP [.tmp 3]
def G2(k:aZ)(n:Int)(q:Int×Bool)(ih:SC aa 129 [.ag (bf k),.fn 214 [] [.ptr 0 0]] [.cells [ab n]] [] (λr S'=>r=ai q.2/\S'=[.cells [ab q.1]])):
 SC aa 216 [.ag (bf k),.ptr 0 0] [.cells [.fn 214 [] [.ptr 1 0]],.cells [ab n]] [] (λr S'=>r=ai (!q.2)/\S'=[.cells [.fn 214 [] [.ptr 1 0]],.cells [ab q.1]]):=by
 refine Rj 8 func216 ?_;rw[cE] at ih ⊢
 refine(jn) ?_;refine zS [1] trivial ih ?_;refine(zR)<|zA [(3,ai (!q.2)),(1000000,.ptr 0 0),(1000001,.ptr 1 0)] [.cells [.fn 214 [] [.ptr 1 0]],.cells [ab q.1]] zH<|(zE) ?_;exact zP [.tmp 3]
abbrev MF:SO:=.cells [.fn 214 [] [.ptr 1 0]]
def Hj(k:aZ):Prop:=∀n:Int,0<=n/\n<=60->SC aa 129 [.ag (bf k),.fn 214 [] [.ptr 0 0]] [.cells [ab n]] [] (λr S'=>r=ai (lM k n).2/\S'=[.cells [ab (lM k n).1]])
def LQ(l:List aZ)(n:Int)(hn:0<=n/\n<=60)(hlen:l.length<=1000000)(hkk:∀k∈l,Hj k):SC aa 274 [ak 6 l bf,.fn 216 [] [.ptr 0 0]] [MF,.cells [ab n]] [] (λr S'=>r=ab (Fa l n 0)/\S'=[MF,.cells [ab (pe l n).1]]):=by
 refine Rj 19 func274 ?_;refine(aA @ak.eq_1)<|(zV)<|(zs) ?_;refine Jg l (λk (v:Int)=>(0<=v/\v<=60)/\Fa l n 0=Fa (l.drop k) v k/\(pe l n).1=(pe (l.drop k) v).1) (λk v=>[(0,.sl l.length 6 (l.flatMap bf)),(1,.fn 216 [] [.ptr 0 0]),(7,ab l.length),(8,ab k),(1000000,.ptr 0 0),(1000001,.ptr 1 0)]) (λk v=>[MF,.cells [ab v]]) (n) zH (by exact⟨hn,rfl,rfl⟩) ?_;intro k v hk hall;refine zT l k ?_ ?_;rintro rfl;rotate_left;intro x hx hlt;rotate_left
 ·refine(gh)<|(zV) ?_
  rw[cl] at hall;refine(zE) ?_;exact zP [.tmp 4] (hq:=by (try simp only[ez,bK]);first | done | (rw[hall.2.1,hall.2.2];first | exact⟨rfl,rfl⟩ | exact⟨trivial,rfl⟩ | exact⟨rfl,trivial⟩ | exact⟨trivial,trivial⟩))
 rw[eW hx,Fa,pe] at hall;have hxl:((l.flatMap bf).drop (k*6)).take 6=bf x:=aT jh hx;have hw:=G2 x v (lM x v) (hkk x (al hx) v hall.1);rw[cE x] at hxl hw
 refine(gz)<|(zV)<|(e9 (bx hlt hxl)) ?_;refine zS [0,1] trivial hw ?_;refine aK.nil ?_
 change aF _ _ _ _ _;have hok:=Cr x v hall.1.2;cases hc:(lM x v).2
 ·rw[hc,v6 bv,v6 bv] at hall
  refine(cL)<|(zE) ?_;exact zP [.tmp 4] (hq:=by (try simp only[ez,bK]);first | done | (rw[hall.2.1,hall.2.2];first | exact⟨rfl,rfl⟩ | exact⟨trivial,rfl⟩ | exact⟨rfl,trivial⟩ | exact⟨trivial,trivial⟩))
 ·rw[hc,ut rfl,ut rfl] at hall;rw[hc] at hok
  have hb:0<=(lM x v).1/\(lM x v).1<=60:=by
   rcases hok with⟨_,h1,h2⟩ | ⟨h1,_⟩
   ·omega
   ·cases h1
  refine(zN)<|(aA (zi hlt hlen)) ?_;refine xu hlt ((lM x v).1) zH (⟨hb,hall.2.1,hall.2.2⟩)
def LL(l:List aZ)(n:Int)(hn:0<=n/\n<=60)(hlen:l.length<=1000000)(hkk:∀k∈l,Hj k):SC aa 215 [ak 6 l bf,.fn 216 [] [.ptr 0 0]] [MF,.cells [ab n]] [] (λr S'=>r=ai (!(pe l n).2)/\S'=[MF,.cells [ab (pe l n).1]]):=by
 have hi:=LQ l n hn hlen hkk;have hd:=JH l n 0 (Int.le_refl _);generalize Fa l n 0=j at hi hd
 refine Rj 9 func215 ?_;refine(zV)<|(e9 @ak.eq_1) ?_;refine zS [0,1] trivial hi ?_;refine(cP hd)<|(zE) ?_;exact zP [.tmp 4]
def Af:∀(d:Nat) (e:aZ),SizeOf.sizeOf e<d->gn e->Hj e
 | 0,e,hd,_=>un hd (ce _)
 | d+1,e,hd,he=>by
  intro n hn;obtain⟨hlen,hks⟩:=he.SX;have hst:=AY e n hn;rw[Po];refine Ot 15 func129 ?_;rw[cE] at hst ⊢
  refine(zV) ?_;refine zZ [(2,.ip [ab e.op,ah e.name,ah e.value,ab e.n,ab e.extra,.sl e.kids.length 6 (e.kids.flatMap bf)]),(3,.ptr 2 0),(1000000,.ptr 0 0)] 1 rfl zG<|zA [(2,.ip [ab e.op,ah e.name,ah e.value,ab e.n,ab e.extra,.sl e.kids.length 6 (e.kids.flatMap bf)]),(3,.ptr 2 0),(1000000,.ptr 0 0)] [.cells [ab n],.gone,.cells [.fn 214 [] [.ptr 0 0]]] zH ?_
  by_cases h60:n+1<=60
  ·rw[wl h60] at hst;rw[ut h60];have hcof:=LL e.kids (n+1) i4 hlen λk hk=>Af d k (by have:=yu hk;omega) (hks k hk)
   refine(zC) ?_;refine zS [0] trivial hst ?_;refine(zQ) ?_;refine zS [2,0] trivial hcof ?_ (hc:=Ef @ak.eq_1);refine(zR)<|zA [(4,ai (pe e.kids (n+1)).2),(1000000,.ptr 0 0)] [.cells [ab (pe e.kids (n+1)).1]] (cm @not_not)<|(zE) ?_;exact zP [.tmp 4]
  ·rw[wd h60] at hst;rw[v6 h60]
   refine(zC) ?_;refine zS [0] trivial hst ?_;refine(zR)<|zA [(4,ai false),(1000000,.ptr 0 0)] [.cells [ab (n+1)]] zH<|(zE) ?_;exact zP [.tmp 4]
def I5(e:aZ)(he:gn e):PC aa 128 [.ag (bf e)] (·=ab (lM e 0).1):=by
 have hw:=Af _ e (be _) he 0 ⟨by decide,by decide⟩;refine pB 8 Tryz.func128 ?_;rw[cE] at hw ⊢
 refine(zV) ?_;refine zZ [(1,.ip [ab e.op,ah e.name,ah e.value,ab e.n,ab e.extra,.sl e.kids.length 6 (e.kids.flatMap bf)])] 0 rfl zG<|zA [(1,.ip [ab e.op,ah e.name,ah e.value,ab e.n,ab e.extra,.sl e.kids.length 6 (e.kids.flatMap bf)])] [] zH<|(jn) ?_;refine zS [0] trivial hw ?_;exact(zR)<|(zV)<|zo [.tmp 2]
def wM(name kind:List Nat)(e:aZ)(hn:fi name)(hk:fi kind)(he:gn e):PC aa 57 [.ag (ah name::ah kind::bf e)] (·=ai (cZ name&&(cZ kind&&nJ e))):=by
 have hs:=I5 e he;have hw:=Ag _ e (be _) he
 have hv:nJ e=(decide ((lM e 0).1<=60)&&(fz e).all iE):=by rw[MS];rfl
 rw[hv];generalize (fz e).all iE=w at hw;generalize (lM e 0).1=m at hs;refine pB 22 Tryz.func57 ?_;rw[cE] at hs hw ⊢
 refine(zV) ?_;refine zZ [(1,.ip [ah name,ah kind,ab e.op,ah e.name,ah e.value,ab e.n,ab e.extra,.sl e.kids.length 6 (e.kids.flatMap bf)])] 0 rfl zG<|zA [(1,.ip [ah name,ah kind,ab e.op,ah e.name,ah e.value,ab e.n,ab e.extra,.sl e.kids.length 6 (e.kids.flatMap bf)])] [] zH<|(zC)<|(zK (dW name hn)) ?_
 cases cZ name
 ·exact(zR)<|zo [.tmp 2]
 refine(zQ)<|(zK (dW kind hk)) ?_
 cases cZ kind
 ·exact(zR)<|zo [.tmp 2]
 refine(zQ)<|(zK hs) ?_
 cases g:decide (m<=60)
 ·exact(cP g)<|zo [.tmp 2]
 exact(L5 g)<|(zK hw)<|(zR)<|zo [.tmp 2]
section
variable (A:List Nat->Bool)
variable {A}
def Jl(name:List Nat):∀(l:List ao) (i:Nat) (m:List (List Nat×Int)),(dG name (nL i m l)=(dG name m||(cY l name).isSome))/\(dG name m=true->getM 0 name (nL i m l)=getM 0 name m)/\
 (dG name m=false->(cY l name).isSome=true->∃k,getM 0 name (nL i m l)=((i+k:Nat):Int)/\l[k]?=cY l name)
 | [],i,m=>⟨by rw[nL];simp[cY],λ_=>rfl,λ_ h=>by simp[cY] at h⟩
 | p::l,i,m=>by
  obtain⟨a1,a2,a3⟩:=Jl name l (i+1) (if dG p.name m=true then m else cD p.name i m)
  have hf:cY (p::l) name=if p.name=name then some p else cY l name:=by
   unfold cY;rw[List.find?_cons];by_cases e:p.name=name
   ·rw[ut e,wl e]
   ·rw[v6 e,wd e]
  have hh:dG name (if dG p.name m=true then m else cD p.name (i:Int) m)=(dG name m||decide (p.name=name)):=by
   split
   ·rename_i h;by_cases e:p.name=name
    ·rw[<-e,h];simp
    ·simp[e]
   ·rw[qo,Bool.or_comm]
    congr 1
    by_cases e:p.name=name
    ·rw[wl e,wl e.symm]
    ·rw[wd e,wd λh=>e h.symm]
  rw[nL];refine⟨?_,λh=>?_,λh h2=>?_⟩
  ·rw[a1,hh,hf];by_cases e:p.name=name
   ·simp[e]
   ·simp[e]
  ·rw[a2 (by rw[hh,h];rfl)];split
   ·rfl
   ·rename_i hp;rw[qm,v6];intro e;rw[<-e,h] at hp;exact hp rfl
  ·by_cases e:p.name=name
   ·refine⟨0,?_,?_⟩
    ·rw[a2 (by rw[hh,wl e,Bool.or_true]),e,h,v6 bv,qm,ut rfl];rfl
    ·rw[hf,ut e];rfl
   ·rw[hf,v6 e] at h2 ⊢;obtain⟨k,k1,k2⟩:=a3 (by rw[hh,h,wd e];rfl) h2;exact⟨k+1,by rw[k1];congr 1;omega,by rw[List.getElem?_cons_succ];exact k2⟩
def K4(ps:List ao)(name:List Nat):pq ps (nL 0 [] ps) name=cY ps name:=by
 obtain⟨a1,_,a3⟩:=Jl name ps 0 [];unfold pq;rw[a1];cases h:(cY ps name).isSome
 ·rw[show(dG name ([]:List (List Nat×Int))||false)=false from rfl,v6 bv]
  cases hf:cY ps name with
  | none=>rfl
  | some x=>rw[hf] at h;cases h
 ·obtain⟨k,k1,k2⟩:=a3 rfl h;rw[show(dG name ([]:List (List Nat×Int))||true)=true from rfl,ut rfl,k1,fx,es,k2]
end
def G9(q:(Int×Int)×Int):SV:=.cA [.ag [ab q.1.1,ab q.1.2],ab q.2]
abbrev wV(p:ao)(cur:List Nat)(day:Int):Fm:=[(1,ah cur),(2,ab day),(3,.ip (ae p)),(6,.ptr 1 0),(7,ab 0)]
def GX(p:ao)(day:Int):PC aa 136 [.ag (ae p),ah [107,109],ab day] (·=G9 (du p [107,109] day)):=by
 have hq:du p [107,109] day=if day<0\/40000<day then (((0,0):Int×Int),(13:Int)) else ((p.l1,p.l2),0):=rfl
 refine pB 32 cp ?_;refine(aA @ae.eq_1) ?_;refine zZ (wV p [107,109] day) 0 rfl (gm @ae.eq_1) ?_
 (try change aF _ _ _ _ _)
 have hg:getM (ua (.ef)) [107,109] nf=.fn 276 [] []:=rfl;have hh:dG [107,109] nf=true:=rfl
 refine(zC)<|(zK ku (hfl:=.inr zr)) ?_;refine aK.r0 ii (by simp only[cN,bL,ak,aB,m7,m6,↓reduceIte,ac,aj,ap,ad,am,an,au,bn,kD (l:=nf) [107,109],hg,hh];first | done | rfl) ?_;refine(zB)<|(Ec) ?_
 cases d1:decide (day<0);rotate_left
 ·exact(aA d1)<|(cL)<|jW [.cell 6 52,.tmp 7] (hq:=by rw[hq,ut (.inl (ww d1))];rfl)
 cases d2:decide (40000<day);rotate_left
 ·exact(aA (bx d1 d2))<|(cL)<|jW [.cell 6 52,.tmp 7] (hq:=by rw[hq,ut (.inr (ww d2))];rfl)
 have h1:0<=day:=by have:=wt d1;omega
 have h2:day<=40000:=by have:=wt d2;omega
 exact(aA (bx d1 d2))<|(zN)<|(e9 (bx @ae.eq_1 @Co.eq_1))<|(zK (OF p day))<|(zR)<|jW [.cell 6 52,.tmp 7] (hq:=by rw[hq,v6 i4];rfl)
def GY(p:ao)(day:Int):PC aa 136 [.ag (ae p),ah [99,121,99,108,101,115],ab day] (·=G9 (du p [99,121,99,108,101,115] day)):=by
 have hq:du p [99,121,99,108,101,115] day=if day<0\/40000<day then (((0,0):Int×Int),(13:Int)) else ((p.l3,p.l4),0):=rfl
 refine pB 32 cp ?_;refine(aA @ae.eq_1) ?_;refine zZ (wV p [99,121,99,108,101,115] day) 0 rfl (gm @ae.eq_1) ?_
 (try change aF _ _ _ _ _)
 have hg:getM (ua (.ef)) [99,121,99,108,101,115] nf=.fn 277 [] []:=rfl;have hh:dG [99,121,99,108,101,115] nf=true:=rfl
 refine(zC)<|(zK ku (hfl:=.inr zr)) ?_;refine aK.r0 ii (by simp only[cN,bL,ak,aB,m7,m6,↓reduceIte,ac,aj,ap,ad,am,an,au,bn,kD (l:=nf) [99,121,99,108,101,115],hg,hh];first | done | rfl) ?_;refine(zB)<|(Ec) ?_
 cases d1:decide (day<0);rotate_left
 ·exact(aA d1)<|(cL)<|jW [.cell 6 52,.tmp 7] (hq:=by rw[hq,ut (.inl (ww d1))];rfl)
 cases d2:decide (40000<day);rotate_left
 ·exact(aA (bx d1 d2))<|(cL)<|jW [.cell 6 52,.tmp 7] (hq:=by rw[hq,ut (.inr (ww d2))];rfl)
 have h1:0<=day:=by have:=wt d1;omega
 have h2:day<=40000:=by have:=wt d2;omega
 exact(aA (bx d1 d2))<|(zN)<|(e9 (bx @ae.eq_1 @Co.eq_1))<|(zK (OB p day))<|(zR)<|jW [.cell 6 52,.tmp 7] (hq:=by rw[hq,v6 i4];rfl)
def GZ(p:ao)(day:Int):PC aa 136 [.ag (ae p),ah [100,97,109,97,103,101],ab day] (·=G9 (du p [100,97,109,97,103,101] day)):=by
 have hq:du p [100,97,109,97,103,101] day=if day<0\/40000<day then (((0,0):Int×Int),(13:Int)) else ((p.l5,p.l6),0):=rfl
 refine pB 32 cp ?_;refine(aA @ae.eq_1) ?_;refine zZ (wV p [100,97,109,97,103,101] day) 0 rfl (gm @ae.eq_1) ?_
 (try change aF _ _ _ _ _)
 have hg:getM (ua (.ef)) [100,97,109,97,103,101] nf=.fn 278 [] []:=rfl;have hh:dG [100,97,109,97,103,101] nf=true:=rfl
 refine(zC)<|(zK ku (hfl:=.inr zr)) ?_;refine aK.r0 ii (by simp only[cN,bL,ak,aB,m7,m6,↓reduceIte,ac,aj,ap,ad,am,an,au,bn,kD (l:=nf) [100,97,109,97,103,101],hg,hh];first | done | rfl) ?_;refine(zB)<|(Ec) ?_
 cases d1:decide (day<0);rotate_left
 ·exact(aA d1)<|(cL)<|jW [.cell 6 52,.tmp 7] (hq:=by rw[hq,ut (.inl (ww d1))];rfl)
 cases d2:decide (40000<day);rotate_left
 ·exact(aA (bx d1 d2))<|(cL)<|jW [.cell 6 52,.tmp 7] (hq:=by rw[hq,ut (.inr (ww d2))];rfl)
 have h1:0<=day:=by have:=wt d1;omega
 have h2:day<=40000:=by have:=wt d2;omega
 exact(aA (bx d1 d2))<|(zN)<|(e9 (bx @ae.eq_1 @Co.eq_1))<|(zK (OC p day))<|(zR)<|jW [.cell 6 52,.tmp 7] (hq:=by rw[hq,v6 i4];rfl)
def G0(p:ao)(day:Int):PC aa 136 [.ag (ae p),ah [100,97,121,115],ab day] (·=G9 (du p [100,97,121,115] day)):=by
 have hq:du p [100,97,121,115] day=if day<0\/40000<day then (((0,0):Int×Int),(13:Int)) else ((gq day p.since,gq day p.since),0):=rfl
 refine pB 32 cp ?_;refine(aA @ae.eq_1) ?_;refine zZ (wV p [100,97,121,115] day) 0 rfl (gm @ae.eq_1) ?_
 (try change aF _ _ _ _ _)
 have hg:getM (ua (.ef)) [100,97,121,115] nf=.fn 279 [] [Co]:=rfl;have hh:dG [100,97,121,115] nf=true:=rfl
 refine(zC)<|(zK ku (hfl:=.inr zr)) ?_;refine aK.r0 ii (by simp only[cN,bL,ak,aB,m7,m6,↓reduceIte,ac,aj,ap,ad,am,an,au,bn,kD (l:=nf) [100,97,121,115],hg,hh];first | done | rfl) ?_;refine(zB)<|(Ec) ?_
 cases d1:decide (day<0);rotate_left
 ·exact(aA d1)<|(cL)<|jW [.cell 6 52,.tmp 7] (hq:=by rw[hq,ut (.inl (ww d1))];rfl)
 cases d2:decide (40000<day);rotate_left
 ·exact(aA (bx d1 d2))<|(cL)<|jW [.cell 6 52,.tmp 7] (hq:=by rw[hq,ut (.inr (ww d2))];rfl)
 have h1:0<=day:=by have:=wt d1;omega
 have h2:day<=40000:=by have:=wt d2;omega
 exact(aA (bx d1 d2))<|(zN)<|(e9 (bx @ae.eq_1 @Co.eq_1))<|(zK (Ix p day ⟨h1,h2⟩))<|(zR)<|jW [.cell 6 52,.tmp 7] (hq:=by rw[hq,v6 i4];rfl)
def G1(p:ao)(day:Int):PC aa 136 [.ag (ae p),ah [97,103,101],ab day] (·=G9 (du p [97,103,101] day)):=by
 have hq:du p [97,103,101] day=if day<0\/40000<day then (((0,0):Int×Int),(13:Int)) else ((gq day p.made,gq day p.made),0):=rfl
 refine pB 32 cp ?_;refine(aA @ae.eq_1) ?_;refine zZ (wV p [97,103,101] day) 0 rfl (gm @ae.eq_1) ?_
 (try change aF _ _ _ _ _)
 have hg:getM (ua (.ef)) [97,103,101] nf=.fn 280 [] [Co]:=rfl;have hh:dG [97,103,101] nf=true:=rfl
 refine(zC)<|(zK ku (hfl:=.inr zr)) ?_;refine aK.r0 ii (by simp only[cN,bL,ak,aB,m7,m6,↓reduceIte,ac,aj,ap,ad,am,an,au,bn,kD (l:=nf) [97,103,101],hg,hh];first | done | rfl) ?_;refine(zB)<|(Ec) ?_
 cases d1:decide (day<0);rotate_left
 ·exact(aA d1)<|(cL)<|jW [.cell 6 52,.tmp 7] (hq:=by rw[hq,ut (.inl (ww d1))];rfl)
 cases d2:decide (40000<day);rotate_left
 ·exact(aA (bx d1 d2))<|(cL)<|jW [.cell 6 52,.tmp 7] (hq:=by rw[hq,ut (.inr (ww d2))];rfl)
 have h1:0<=day:=by have:=wt d1;omega
 have h2:day<=40000:=by have:=wt d2;omega
 exact(aA (bx d1 d2))<|(zN)<|(e9 (bx @ae.eq_1 @Co.eq_1))<|(zK (LK p day ⟨h1,h2⟩))<|(zR)<|jW [.cell 6 52,.tmp 7] (hq:=by rw[hq,v6 i4];rfl)
def wg(p:ao)(cur:List Nat)(day:Int):PC aa 136 [.ag (ae p),ah cur,ab day] (·=G9 (du p cur day)):=by
 by_cases c0:cur=[107,109]
 ·subst c0;exact GX p day
 by_cases c1:cur=[99,121,99,108,101,115]
 ·subst c1;exact GY p day
 by_cases c2:cur=[100,97,109,97,103,101]
 ·subst c2;exact GZ p day
 by_cases c3:cur=[100,97,121,115]
 ·subst c3;exact G0 p day
 by_cases c4:cur=[97,103,101]
 ·subst c4;exact G1 p day
 have hq:du p cur day=((0,0),15):=by
  unfold du;simp only[c0,c1,c2,c3,c4,if_false]
 refine pB 32 cp ?_;refine(aA @ae.eq_1) ?_;refine zZ (wV p cur day) 0 rfl (gm @ae.eq_1) ?_
 (try change aF _ _ _ _ _)
 have hk:nf.map (·.1)=[[107,109],[99,121,99,108,101,115],[100,97,109,97,103,101],[100,97,121,115],[97,103,101]]:=rfl
 have hh:dG cur nf=false:=by
  cases h:dG cur nf
  ·rfl
  ·rw[kS,hk] at h;simp[c0,c1,c2,c3,c4] at h
 have hg:getM (ua (.ef)) cur nf=ua (.ef):=yj hh
 refine(zC)<|(zK ku (hfl:=.inr zr)) ?_;refine aK.r0 ii (by simp only[cN,bL,ak,aB,m7,m6,↓reduceIte,ac,aj,ap,ad,am,an,au,bn,kD (l:=nf) cur,hg,hh];first | done | rfl) ?_;exact(zB)<|(wO)<|(zV)<|jW [.cell 6 52,.tmp 7] (hq:=by rw[hq];rfl)
def Nl:Rp ps (nL 0 [] ps):=Ci ge (Eb ps)
def D0(ps:List ao)(part:List Nat)(hlen:ps.length<=1000000):PC aa 58 [.ag [ak 14 ps ae],ah part] (·=ah (Kj ps part)):=by
 refine pB 30 Tryz.func58 ?_;have hof:=rD ps hlen;unfold B5 at hof
 refine(zV) ?_;refine zZ [(1,ah part),(2,.ip [ak 14 ps ae])] 0 rfl (gm @ak.eq_1)<|zA [(1,ah part),(2,.ip [ak 14 ps ae])] [] zH<|(zC)<|(zK hof (hfl:=.inr zr))<|(zR) ?_;refine zZ [(1,ah part),(2,.ip [ak 14 ps ae]),(5,.ip [ak 14 ps ae,lR AV.str ab (nL 0 [] ps)])] 0 rfl (gm @ak.eq_1)<|zA [(1,ah part),(2,.ip [ak 14 ps ae]),(5,.ip [ak 14 ps ae,lR AV.str ab (nL 0 [] ps)])] [] zH<|(zV)<|(zs) ?_;refine Jg ps (λk (pt:List Nat)=>Kj ps part=qE ps (ps.length-k) pt) (λk pt=>[(1,ah pt),(2,.ip [ak 14 ps ae]),(5,.ip [ak 14 ps ae,lR AV.str ab (nL 0 [] ps)]),(12,ab ps.length),(13,ab k)]) (λk pt=>[]) (part) zH ii ?_;intro k pt hk hall;refine zT ps k ?_ ?_;rintro rfl;rotate_left;intro x hx hlt;rotate_left
 ·exact(gh)<|(zV)<|zo [.tmp 4] (hq:=by rw[hall,ck];rfl)
 have hget:=mX ps (nL 0 [] ps) pt Nl;rw[K4] at hget
 have hstep:qE ps (ps.length-k) pt=match cY ps pt with
  | none=>[]
  | some p=>if p.bu=[] then pt else qE ps (ps.length-(k+1)) p.bu:=by
  rw[show ps.length-k=ps.length-(k+1)+1 by omega];rfl
 refine(gz)<|(zC) ?_;refine aK.k ii rfl rfl ii rfl zc (hget) (zw) (.inr (cC.refl (by cases cY ps pt<;>rfl))) ?_
 cases hf:cY ps pt with
 | none=>
  rw[hf] at hstep
  exact(cP (cO @iU.eq_1 @ae.eq_1 @ao.zero.eq_1))<|(wO)<|(zV)<|zo [.tmp 4] (hq:=by rw[hall,hstep])
 | some p=>
  rw[hf] at hstep
  refine(cP (bx @iU.eq_1 @ae.eq_1))<|(Ec) ?_
  cases hi:decide (p.bu=[])
  ·rw[show(match some p with | none=>[] | some p=>if p.bu=[] then pt else qE ps (ps.length-(k+1)) p.bu)=qE ps (ps.length-(k+1)) p.bu from v6 (wt hi)] at hstep
   refine(aA hi)<|(lf)<|(aA (zi hlt hlen)) ?_;refine xu hlt (p.bu) zH (by rw[hall,hstep])
  ·rw[show(match some p with | none=>[] | some p=>if p.bu=[] then pt else qE ps (ps.length-(k+1)) p.bu)=pt from ut (ww hi)] at hstep
   exact(aA hi)<|(cL)<|zo [.tmp 4] (hq:=by rw[hall,hstep])
def lF(d:List Nat->Bool)(l:List (List Nat)):List (List Nat):=l.filter λx=>!d x
def Bv{d:List Nat->Bool}{l:List (List Nat)}(h:∀x∈l,d x=false):lF d l=l:=by
 unfold lF;rw[el];intro x hx;rw[h x hx];rfl
def yr{d:List Nat->Bool}{l:List (List Nat)}{j:Nat}{x:List Nat}(h:l[j]?=some x):lF d (l.take (j+1))=lF d (l.take j)++(if d x=true then [] else [x]):=by
 unfold lF;rw[c9 h,ey];cases hd:d x<;>simp[hd]
def zb(l:List (List Nat)):(l.flatMap (aG ah)).length=l.length:=Qe l
def J4:∀n,(rep [AV.str []] n).map SV.a=(dd n ([]:List Nat)).flatMap (aG ah)
 | 0=>rfl
 | n+1=>by rw[rep,ct,J4 n,List.replicate_succ,flatMap_cons];rfl
def BN:∀n,(rep [AV.str []] n).all jR=true
 | 0=>rfl
 | n+1=>by rw[rep,dv,BN n];rfl
def NQ(l:List (List Nat))(i:Nat):(l.flatMap (aG ah)).take i=(l.take i).flatMap (aG ah):=by
 rw[rq,rq,List.map_take]
def Gn(g:FuncId)(caps:List SV)(hg:bV caps=true)(d:List Nat->Bool)(hp:∀x,PC aa g ([ah x]++caps) (·=ai (d x)))(l:List (List Nat))(hlen:l.length<=100000):
 SC aa 224 [.buf 0 l.length 1 none,.fn g [] caps] [.cells (l.flatMap (aG ah))] [] (λr S'=>r=.buf 0 (lF d l).length 1 none/\S'=[.cells ((lF d l++dd (l.length-(lF d l).length) []).flatMap (aG ah))]):=by
 have hidx:=qK (l:=l) d (fid:=g) (first:=[]) (cap:=caps) i4 (λx hx=>hp x) ⟨rfl,hg⟩;have hkc:∀(o:Nat) (l:List (List Nat)),(l.flatMap (aG ah)).map (aO o)=l.flatMap (aG ah):=λo l=>bF (enc:=aG ah) gc o l;have hk2:∀o:Nat,caps.map (aO o)=caps:=λo=>bU hg;have hn2:∀o:Nat,eG o caps=false:=λo=>cr hg
 refine Ot 42 func224 ?_;refine(aA (bx hk2 hn2))<|(e9 (bx hk2 hn2))<|(zK hidx (hwk:=.cons (.buf rfl (by rw[eD (enc:=aG ah) (e:=1) gc];exact cC.refl (aD (λ_=>rfl) l)) (by rw[bg (enc:=aG ah) (e:=1) gc];exact ay _)) (.cons (.fn .nil (cC.refl hg)) .nil)))<|(cP (bx hk2 hn2)) ?_
 by_cases hno:fP d l = -1
 ·have hall:=Bq hno;rw[hno]
  refine(wO)<|(zV)<|(zE) ?_;exact zP [.tmp 4] (hq:=by (try simp only[ez,bK]);first | done | (rw[Bv hall,ck,List.replicate_zero,a9];first | exact⟨rfl,rfl⟩ | exact⟨trivial,rfl⟩ | exact⟨rfl,trivial⟩ | exact⟨trivial,trivial⟩))
 obtain⟨k,x0,hk,hx0,hd0,hbef⟩:=Bp hno;rw[hk];have hkl:k<l.length:=br hx0
 refine(aA (show decide ((k:Int) = -1)=false by simp only[wn];omega))<|(zN)<|(aA (Ee (show -9223372036854775808<=(k:Int)+1/\(k:Int)+1<=9223372036854775807 from⟨by omega,by omega⟩))) ?_
 have hst:lF d (l.take (k+1))=l.take k:=by
  rw[yr hx0,ut hd0,a9];refine Bv λx hx=>?_;obtain⟨i,hi⟩:=mem_iff_getElem?.1 hx
  have hik:i<k:=by
   have:=br hi;rw[a7] at this;omega
  rw[c6,ut hik] at hi;exact hbef i x hik hi
 (repeat refine aF.seq ?_)
 refine aF.block (aF.loop (λm st=>∃(j i:Nat) (q:List (List Nat)),(i<j/\j<=l.length/\q.length=l.length)/\(q.take i=lF d (l.take j)/\q.drop j=l.drop j)/\l.length-j=m/\st=⟨[(0,.buf 0 l.length 1 none),(1,.fn g [] caps),(5,qx i),(6,qx j),(1000000,.ptr 0 0)],42,[.cells (q.flatMap (aG ah))],[]⟩) (l.length-(k+1)) (cm @fF) ⟨k+1,k,l,⟨be _,hkl,rfl⟩,⟨hst.symm,rfl⟩,rfl,rfl⟩ (by rintro m st ⟨j,i,q,_,_,_,rfl⟩;rfl) ?_);rintro m st ⟨j,i,q,⟨hij,hjl,hql⟩,⟨htk,hdr⟩,rfl,rfl⟩
 have hcl:(q.flatMap (aG ah)).length=l.length:=by rw[zb,hql]
 refine(zV) ?_;by_cases hlt:j<l.length;rotate_left
 ·rw[show decide ((j:Int)<(l.length:Int))=false by simp only[wn];omega]
  obtain rfl:j=l.length:=by omega
  rw[bb] at htk;refine(gh) ?_
  have hkl2:(lF d l).length=i:=by rw[<-htk,a7];omega
  have hrest:(q.flatMap (aG ah)).take i++((rep [AV.str []] (l.length-i)).map SV.a++(q.flatMap (aG ah)).drop (i+(l.length-i)))=(lF d l++dd (l.length-(lF d l).length) []).flatMap (aG ah):=by
   rw[hkl2,J4,NQ,htk,a5 (by rw[hcl];omega),a9,bi]
  refine(aA (He (Pg (show i<=l.length by omega)) (show ¬(l.length-i=0) by omega) @bk (show i+(l.length-i)<=l.length by omega) hcl @BN hrest))<|(aA (bx (TS (show i<=l.length by omega)) @Nat.sub_zero))<|(zE) ?_;exact zP [.tmp 4] (hq:=by (try simp only[ez,bK]);first | done | (rw[hkl2];first | exact⟨rfl,rfl⟩ | exact⟨trivial,rfl⟩ | exact⟨rfl,trivial⟩ | exact⟨trivial,trivial⟩))
 rw[show decide ((j:Int)<(l.length:Int))=true by simp only[wp];omega];obtain⟨x,hx⟩:∃x,l[j]?=some x:=⟨l[j],jp hlt⟩
 have hqx:q[j]?=some x:=by
  have:(q.drop j)[0]?=(l.drop j)[0]?:=by rw[hdr]
  rw[c5,c5,ba] at this;rw[this,hx]
 have hdr2:q.drop (j+1)=l.drop (j+1):=by
  have:=rc (List.drop 1) hdr;rw[fm,fm] at this;exact this
 have hsn:=yr (d:=d) hx;have ax:=RY (c:=ah) hqx;have hpx:=hp x
 refine(gz)<|(aA (xO hlt hcl @bk (show j+1<=l.length by omega) ax hkc))<|(zC)<|(zK hpx (hwk:=.cons (.a _) (cC.refl hg))) ?_
 cases hd:d x
 ·have hil:i<q.length:=by omega
  have s1:=NR (c:=ah) (l:=q) (i:=i) x hil;rw[hd,v6 g9] at hsn
  refine(zR)<|(zY)<|(aA (na (show i<l.length by omega) hcl @bk (show i+1<=l.length by omega) s1))<|(aA (Ee (show -9223372036854775808<=(i:Int)+1/\(i:Int)+1<=9223372036854775807 from⟨by omega,by omega⟩)))<|(aA (Ee (show -9223372036854775808<=(j:Int)+1/\(j:Int)+1<=9223372036854775807 from⟨by omega,by omega⟩))) ?_;refine⟨l.length-(j+1),_,by omega,(cm @fF),j+1,i+1,q.set i x,⟨by omega,by omega,by rw[dE,hql]⟩,⟨?_,?_⟩,rfl,rfl⟩
  ·rw[hsn,<-htk,ca,ut hil,e6,a7,cn i4,List.take_take,Nat.min_eq_right i4,show i+1-i=1 by omega];rfl
  ·rw[List.drop_set,ut i4];exact hdr2
 ·rw[hd,ut rfl,a9] at hsn
  refine(zR)<|(zN)<|(aA (Ee (show -9223372036854775808<=(j:Int)+1/\(j:Int)+1<=9223372036854775807 from⟨by omega,by omega⟩))) ?_;exact⟨l.length-(j+1),_,by omega,(cm @fF),j+1,i,q,⟨by omega,by omega,hql⟩,⟨by rw[hsn,htk],hdr2⟩,rfl,rfl⟩
abbrev Ax(e:aZ):SV:=.ip [ab e.op,ah e.name,ah e.value,ab e.n,ab e.extra,.sl e.kids.length 6 (e.kids.flatMap bf)]
def Aa(ps:List ao)(day:Int)(name kind:List Nat)(hlen:ps.length<=1000000):PC aa 225 [ah name,.ip [ak 14 ps ae,ab day],.ip [ah kind]] (·=ai (!(decide ((dM ps name).kind=kind)))):=by
 have hf:=iA ps name hlen;refine pB 18 Tryz.func225 ?_
 have ho:∃b,iU ae ao.zero (cY ps name)=.cA [.ag (ae (dM ps name)),ai b]:=by
  unfold dM
  cases cY ps name with
  | none=>exact⟨false,rfl⟩
  | some p=>exact⟨true,rfl⟩
 obtain⟨b,ho⟩:=ho;rw[ho] at hf;generalize dM ps name=p at hf
 exact(jn)<|(zK hf (hfl:=.inr zr))<|(cP @ae.eq_1)<|(zV)<|zo [.tmp 4]
def LN(x:bO)(e:aZ):PC aa 141 [.ag (aI x),Ax e] (·=ai (decide (x.key=e.name))):=by
 refine pB 9 Tryz.func141 ?_;exact(aA @aI.eq_1)<|(zV)<|zo [.tmp 3]
def IE(q:ao)(part:List Nat)(e:aZ):PC aa 142 [.ag (ae q),.ip [ah part],Ax e] (·=ai (decide (q.bu=part)&&(decide (q.slot=e.name)&&decide (q.kind=e.value)))):=by
 refine pB 23 Tryz.func142 ?_;refine(aA @ae.eq_1) ?_;cases g1:decide (q.bu=part)
 ·exact(aA g1)<|zo [.tmp 4]
 cases g2:decide (q.slot=e.name)
 ·exact(aA (bx g1 g2))<|zo [.tmp 4]
 ·exact(aA (bx g1 g2))<|zo [.tmp 4]
def DI{l:List (bO)}(p:bO->Bool)(hlen:l.length<=1000000)(hp:∀x∈l,PC aa fid ((first++[.ag (aI x)])++cap) (·=ai (p x)))(hg:bV first=true/\bV cap=true):PC aa 223 [ak 2 l aI,.fn fid first cap] (·=ab (fP p l)):=by
 refine pB 19 Tryz.func223 ?_;refine(aA @ak.eq_1)<|(zV)<|(zs) ?_;refine zL l (λk=>∀(i:Nat) y,i<k->l[i]?=some y->p y=false) (λk=>[(0,.sl l.length 2 (l.flatMap aI)),(1,.fn fid first cap),(7,ab l.length),(8,ab k)]) (λk=>[]) zH zp ?_;intro k hk hall;refine zT l k ?_ ?_;rintro rfl;rotate_left;intro x hx hlt;rotate_left
 ·exact(gh)<|(zV)<|zo [.tmp 4] (hq:=by rw[hY hall])
 ·refine(gz)<|(zV)<|(e9 (cO hlt (aT (e:=2) (enc:=aI) gc hx) @aI.eq_1))<|(zK (hp x (mem_iff_getElem?.2 ⟨k,hx⟩)) (hwk:=((cC.refl hg.1).app zr).app (cC.refl hg.2))) ?_;refine aK.nil ?_
  change aF _ _ _ _ _;cases hpx:p x
  ·refine(zN)<|(aA (zi hlt hlen)) ?_;refine zX hlt zH ?_
   intro i y hi hy;by_cases hik:i=k
   ·subst hik;rw[hx] at hy;cases hy;exact hpx
   ·exact hall i y i4 hy
  ·exact(cL)<|zo [.tmp 4] (hq:=by rw[lQ hx hpx hall])
def Dw{l:List (bO)}(p:bO->Bool)(hlen:l.length<=1000000)(hp:∀x∈l,PC aa fid ((first++[.ag (aI x)])++cap) (·=ai (p x)))(hg:bV first=true/\bV cap=true):PC aa 140 [ak 2 l aI,.fn fid first cap] (·=ai (l.any p)):=by
 refine pB 9 Tryz.func140 ?_;exact(jn)<|(zK (DI p hlen hp hg) (hwk:=.cons (Wk.sl _ _ _) (.cons (.fn (cC.refl hg.1) (cC.refl hg.2)) .nil)))<|(zR)<|zo [.tmp 4] (hq:=by rw[nw])
def Qp(a b:bO):fJ eC [AV.str a.key,.str a.value] [AV.str b.key,.str b.value]=(decide (a.key=b.key)&&decide (a.value=b.value)):=by
 simp[fJ,eC,xb]
def Gs(a b:bO):dk aa .eql 198 (.agg [.str a.key,.str a.value]) (.agg [.str b.key,.str b.value])=some (.bool (decide (a.key=b.key)&&decide (a.value=b.value))):=
 sK (ks:=[.s,.s]) zW zW (by simp only[aB,m6]) rfl rfl (Qp a b)
def zU(l:List bO)(s:bO)(hlen:l.length<=1000000):PC aa 222 [ak 2 l aI,.ag (aI s)] (·=ab (fP (λx=>decide (s.key=x.key)&&decide (s.value=x.value)) l)):=by
 refine pB 19 Tryz.func222 ?_;refine(aA @aI.eq_1) ?_;refine zZ [(0,ak 2 l aI),(3,.ip (aI s))] 0 rfl (gm (bx @ak.eq_1 @aI.eq_1))<|zA [(0,ak 2 l aI),(3,.ip (aI s))] [] zH<|(zV)<|(zs) ?_;refine zL l (λk=>∀(i:Nat) y,i<k->l[i]?=some y->(decide (s.key=y.key)&&decide (s.value=y.value))=false) (λk=>[(0,ak 2 l aI),(3,.ip (aI s)),(7,ab l.length),(8,ab k)]) (λk=>[]) zH zp ?_;intro k hk hall;refine zT l k ?_ ?_;rintro rfl;rotate_left;intro x hx hlt;rotate_left
 ·exact(gh)<|(zV)<|zo [.tmp 4] (hq:=by rw[hY hall])
 ·have heq:=Gs s x
  refine(gz)<|(zV)<|(zs) ?_;refine oe [0,0,0,6,14,31] ?_;refine(OZ (gr hlt (aT (e:=2) (enc:=aI) gc hx) @aI.eq_1 heq))<|(zM) ?_
  cases hpx:(decide (s.key=x.key)&&decide (s.value=x.value))
  ·refine(zN)<|(aA (zi hlt hlen)) ?_;refine zX hlt zH ?_
   intro i y hi hy;by_cases hik:i=k
   ·subst hik;rw[hx] at hy;cases hy;exact hpx
   ·exact hall i y i4 hy
  ·exact(cL)<|zo [.tmp 4] (hq:=by rw[lQ (p:=λx=>decide (s.key=x.key)&&decide (s.value=x.value)) hx hpx hall])
def ue(l:List bO)(s:bO)(hlen:l.length<=1000000):PC aa 139 [ak 2 l aI,.ag (aI s)] (·=ai (l.any λx=>decide (x.key=s.key)&&decide (x.value=s.value))):=by
 have he:(l.any λx=>decide (x.key=s.key)&&decide (x.value=s.value))=l.any λx=>decide (s.key=x.key)&&decide (s.value=x.value):=by
  congr 1;funext x;simp only[eq_comm]
 rw[he];have hi:=zU l s hlen;refine pB 9 Tryz.func139 ?_;rw[show aI s=[ah s.key,ah s.value] from rfl] at hi ⊢
 exact(jn)<|(zK hi)<|(zR)<|zo [.tmp 4] (hq:=by rw[nw])
def Dz(g:FuncId)(caps:List SV)(hg:bV caps=true)(d:List Nat->Bool)(hp:∀x,PC aa g ([ah x]++caps) (·=ai (d x))):PC aa 224 [aR,.fn g [] caps] (·=aR):=by
 have hidx:=qK (l:=[]) d (fid:=g) (first:=[]) (cap:=caps) ge (λx hx=>hp x) ⟨rfl,hg⟩;rw[show fP d [] = -1 from rfl] at hidx
 refine pB 42 func224 ?_;exact(jn)<|(zK hidx (hwk:=.cons (.nil 1) (.cons (.fn .nil (cC.refl hg)) .nil)))<|(zR)<|(wO)<|(zV)<|zo [.tmp 4]
def HS(ps:List ao)(part kind:List Nat):lF (λn=>!(decide ((dM ps n).kind=kind))) (fQ ps part)=ia ps part kind:=by
 unfold lF ia;simp only[not_not]
def AS(ps:List ao)(day:Int)(part kind:List Nat)(hlen:ps.length<=100000):PC aa 143 [.ag [ak 14 ps ae,ab day],ah part,ah kind] (·=ak 1 (ia ps part kind) (aG ah)):=by
 have hin:=qI ps part hlen;have hil:=mH ps part;rw[<-HS];have hd:=λn=>Aa ps day n kind i4;generalize hdd:(λn=>!(decide ((dM ps n).kind=kind)))=d at hd ⊢
 have hd:∀n,PC aa 225 ([ah n]++[.ip [ak 14 ps ae,ab day],.ip [ah kind]]) (·=ai (d n)):=by rw[<-hdd];exact λn=>Aa ps day n kind i4
 clear hdd;generalize fQ ps part=L at hin hil
 refine pB 13 Tryz.func143 ?_;refine(zV) ?_;refine zZ [(1,ah part),(3,.ip [ak 14 ps ae,ab day]),(5,.ptr 1 0)] 0 rfl (gm @ak.eq_1)<|zZ [(1,ah part),(3,.ip [ak 14 ps ae,ab day]),(5,.ip [ah kind])] 1 rfl (gm @ak.eq_1)<|zA [(1,ah part),(3,.ip [ak 14 ps ae,ab day]),(5,.ip [ah kind])] [] zH ?_
 by_cases hL:L=[]
 ·subst hL;rw[show cx 0 1 ([]:List (List Nat)).length=aR from rfl,gR] at hin
  refine(zC) ?_;refine zS [] trivial hin ?_;exact(zQ)<|(zK (Dz 225 [.ip [ak 14 ps ae,ab day],.ip [ah kind]] rfl d hd))<|(zR)<|zo [.tmp 6] (r:=.sl 0 1 []) (hw:=Wk.nil _)
 ·have hL0:¬L.length=0:=λh=>hL (t8 h);rw[en (o:=0) (e:=1) hL0,fV hL] at hin;have hrc:∀(r:Nat->Nat) (l:List (List Nat)),mM r (l.flatMap (aG ah))=l.flatMap (aG ah):=λr l=>bq (aD (λ_=>rfl) l);have hbc:∀(B:Nat) (l:List (List Nat)),iG B (l.flatMap (aG ah))=true:=λB l=>bQ (aD (λ_=>rfl) l);have hkc:∀(o:Nat) (l:List (List Nat)),(l.flatMap (aG ah)).map (aO o)=l.flatMap (aG ah):=λo l=>bF (enc:=aG ah) gc o l
  refine(zC) ?_;refine zS [] (cO hrc hbc hkc) hin ?_;refine(zQ) ?_;refine zS [0] (cO hrc hbc hkc) (Gn 225 [.ip [ak 14 ps ae,ab day],.ip [ah kind]] rfl d hd L i4) ?_;exact(cP hkc)<|zo [.tmp 6] (r:=ak 1 (lF d L) (aG ah)) (hw:=.buf rfl (by rw[bk,bi,List.take_left'];(exact cC.refl (aD (λ_=>rfl) _));rw[zb]) (by rw[zb,li];omega))
def pO(join:FuncId)(j:Int->Int->Int)(hj:∀a b,PC aa join [ab a,ab b] (·=ab (j a b)))(one:FuncId)(caps:List SV)(hg:bV caps=true)(vals:List Int)(hlen:vals.length<=1000000)(h1:∀(i:Nat) x,vals[i]?=some x->PC aa one ([ab i]++caps) (·=ab x))(first:Int):
 PC aa 131 [.fn join [] [],ab first,ab vals.length,.fn one [] caps] (·=ab (vals.foldl j first)):=by
 refine pB 22 Tryz.func131 ?_;refine(og)<|(zs) ?_;refine Jg vals (λk (acc:Int)=>vals.foldl j first=(vals.drop k).foldl j acc) (λk acc=>[(0,.fn join [] []),(1,ab acc),(3,.fn one [] caps),(10,ab vals.length),(11,ab k)]) (λk acc=>[]) (first) zH ii ?_;intro k acc hk hall;refine zT vals k ?_ ?_;rintro rfl;rotate_left;intro x hx hlt;rotate_left
 ·refine(gh) ?_;rw[cl] at hall
  exact(zV)<|zo [.tmp 8] (hq:=by rw[hall];rfl)
 rw[eW hx,fd] at hall
 refine(gz)<|(jn)<|(zK (h1 k x hx) (hwk:=.cons (.a _) (cC.refl hg)))<|(zQ)<|(zK (hj acc x))<|(zR)<|(aA (zi hlt hlen)) ?_;refine xu hlt (j acc x) zH hall
abbrev JJ(ps:List ao)(day:Int):SV:=.ip [ak 14 ps ae,ab day]
def Eg(ps:List ao)(day:Int)(e:aZ)(part:List Nat)(v:Int):Prop:=PC aa 59 [.ag [ak 14 ps ae,ab day],.ag (bf e),ah part] (·=ab v)
def vu(ps:List ao)(day:Int)(e:aZ)(part:List Nat)(i:Nat)(k:aZ)(hk:e.kids[i]?=some k)(v:Int)(ih:Eg ps day k part v):PC aa 132 ([ab i]++[JJ ps day,Ax e,.ip [ah part]]) (·=ab v):=by
 have hlt:=br hk;have hxl:((e.kids.flatMap bf).drop (i*6)).take 6=bf k:=aT jh hk;unfold Eg at ih;rw[cE k] at hxl ih
 refine pB 14 Tryz.func132 ?_;refine(zV)<|(zs) ?_;refine oe [0,0,2,0,14,30,0,127,255] ?_;exact(OZ (bx hlt hxl))<|(xv (ih))<|(rH)<|(zM)<|zo [.tmp 5]
def zF(ps:List ao)(day:Int)(e:aZ)(names:List (List Nat))(i:Nat)(nm:List Nat)(hi:names[i]?=some nm)(k:aZ)(hk:e.kids[0]?=some k)(v:Int)(ih:Eg ps day k nm v):PC aa 144 ([ab i]++[JJ ps day,Ax e,.ip [ak 1 names (aG ah)]]) (·=ab v):=by
 have hlt:=br hi;have hlk:=br hk
 have hxl:(e.kids.flatMap bf).take 6=bf k:=by have:=aT jh hk;simpa using this
 have hnl:=aT (e:=1) (enc:=aG ah) gc hi;unfold Eg at ih;rw[cE k] at hxl ih
 refine pB 16 Tryz.func144 ?_;refine(zV)<|(zs) ?_;refine oe [0,0,2,6,14,0,0,96,224,511,1023] ?_;exact(OZ (Tw hlt hlk hxl hnl @aG.eq_1 @Nat.zero_mul @drop_zero.{0} (show H4 (.a (.int .i64 0))=some 0 from rfl)))<|(xv (ih))<|(rH)<|(zM)<|zo [.tmp 5]
section
variable {A:List Nat->Bool}
def nt(A:List Nat->Bool):List Nat->Bool:=λn=>!(A n)
end
section
variable {A:List Nat->Bool}
def K1{n:List Nat}{p:ao}(h:cY ps n=some p):p∈ps/\p.name=n:=by
 unfold cY at h;exact⟨b8 h,by simpa using List.find?_some h⟩
end
def iX(ps:List ao)(day:Int)(e:aZ)(part:List Nat):iN ps day e part=
 if e.op=2 then Lm ((Cg ps day e.kids part).headD 0)
 else if e.op=3 then (Cg ps day e.kids part).foldl Cd 2
 else if e.op=4 then (Cg ps day e.kids part).foldl Qm 0
 else if e.op=10 then (O8 ps day e.kids (ia ps part e.name)).foldl Cd 2
 else if e.op=11 then (O8 ps day e.kids (ia ps part e.name)).foldl Qm 0
 else Q2 ps day e.op e.name e.value e.n e.extra part:=by
 obtain⟨op,name,value,n,extra,kids⟩:=e;rw[iN];rfl
def wT(ps:List ao)(day:Int)(part:List Nat):∀l:List aZ,Cg ps day l part=l.map λk=>iN ps day k part
 | []=>rfl
 | k::l=>by rw[Cg,wT ps day part l,List.map_cons]
variable{day:Int}{part:List Nat}
def Rr(h:e.op=1):iN ps day e part=2:=by
 rw[iX,h];rfl
def Rs{k:aZ}(h:e.op=2)(hk:e.kids[0]?=some k):iN ps day e part=Lm (iN ps day k part):=by
 rw[iX,h,wT]
 cases hl:e.kids with
 | nil=>rw[hl] at hk;cases hk
 | cons a l=>rw[hl] at hk;cases hk;rfl
def Rt(h:e.op=3):iN ps day e part=(e.kids.map λk=>iN ps day k part).foldl Cd 2:=by
 rw[iX,h,wT];rfl
def Ru(h:e.op=4):iN ps day e part=(e.kids.map λk=>iN ps day k part).foldl Qm 0:=by
 rw[iX,h,wT];rfl
def Mt(h:e.op=5):iN ps day e part=if (du (dM ps part) e.name day).2=0 then Lm (oK (du (dM ps part) e.name day).1.1 (du (dM ps part) e.name day).1.2 (e.n+e.extra)) else 0:=by
 rw[iX,h];rfl
def Mu(h:e.op=6):iN ps day e part=if (du (dM ps part) e.name day).2=0 then oK (du (dM ps part) e.name day).1.1 (du (dM ps part) e.name day).1.2 e.n else 0:=by
 rw[iX,h];rfl
def Rv(h:e.op=7):iN ps day e part=Ea ((dM ps part).props.any λx=>decide (x.key=e.name)&&decide (x.value=e.value)):=by
 rw[iX,h];rfl
def Rw(h:e.op=8):iN ps day e part=Ea ((dM ps part).props.any λx=>decide (x.key=e.name)):=by
 rw[iX,h];rfl
def Rx(h:e.op=9):iN ps day e part=Ea (ps.any λq=>decide (q.bu=part)&&(decide (q.slot=e.name)&&decide (q.kind=e.value))):=by
 rw[iX,h];rfl
def O9{k:aZ}(h:e.op=10)(hk:e.kids[0]?=some k):iN ps day e part=((ia ps part e.name).map λn=>iN ps day k n).foldl Cd 2:=by
 rw[iX,h]
 cases hl:e.kids with
 | nil=>rw[hl] at hk;cases hk
 | cons a l=>rw[hl] at hk;cases hk;rfl
def Pa{k:aZ}(h:e.op=11)(hk:e.kids[0]?=some k):iN ps day e part=((ia ps part e.name).map λn=>iN ps day k n).foldl Qm 0:=by
 rw[iX,h]
 cases hl:e.kids with
 | nil=>rw[hl] at hk;cases hk
 | cons a l=>rw[hl] at hk;cases hk;rfl
def Pb(h:e.op=12):iN ps day e part=Ea (decide (e.n<=((ia ps part e.name).length:Int))):=by
 rw[iX,h];rfl
def yL(h:iE e=true)(ho:e.op=2\/e.op=10\/e.op=11):∃k,e.kids[0]?=some k:=by
 have hl:e.kids.length=1:=by
  unfold iE at h
  rcases ho with o | o | o<;>(unfold Sv at h;rw[o] at h;simp[FI] at h;omega)
 cases hk:e.kids with
 | nil=>rw[hk] at hl;cases hl
 | cons a l=>exact⟨a,rfl⟩
def RU(h:iE e=true)(o:e.op=5):0<=e.n/\e.n<=9999999/\0<=e.extra/\e.extra<=9999999:=by
 unfold iE Sv at h;rw[o] at h;simp[FI,HN] at h;omega
def PY(h:iE e=true)(n1:¬e.op=1)(n2:¬e.op=2)(n3:¬e.op=3)(n4:¬e.op=4)(n5:¬e.op=5)(n6:¬e.op=6)(n7:¬e.op=7)(n8:¬e.op=8)(n9:¬e.op=9)(n10:¬e.op=10)(n11:¬e.op=11):e.op=12:=by
 refine Classical.byContradiction λn12=>?_;unfold iE Sv at h;simp[n1,n2,n3,n4,n5,n6,n7,n8,n9,n10,n11,n12] at h
abbrev Ph(ps:List ao)(day:Int)(e:aZ)(part:List Nat):List SV:=[JJ ps day,Ax e,.ip [ah part]]
abbrev wA(ps:List ao)(day:Int)(e:aZ)(part:List Nat)(p:ao):Fm:=[(3,JJ ps day),(4,Ax e),(5,.ip [ah part]),(7,.ip (ae p)),(9,.fn 131 [] []),(10,.fn 132 [] (Ph ps day e part)),(11,ab e.n),(29,ab e.op)]
def BX(ps:List ao)(day:Int)(hlen:ps.length<=100000)(hps:∀p∈ps,p.props.length<=1000000):∀(d:Nat) (e:aZ) (part:List Nat),SizeOf.sizeOf e<d->gn e->(fz e).all iE=true->Eg ps day e part (iN ps day e part)
 | 0,e,_,hd,_,_=>un hd (ce _)
 | d+1,e,part,hd,he,hv=>by
  have hf:=iA ps part i4
  have ho:∃b,iU ae ao.zero (cY ps part)=.cA [.ag (ae (dM ps part)),ai b]:=by
   unfold dM
   cases cY ps part with
   | none=>exact⟨false,rfl⟩
   | some p=>exact⟨true,rfl⟩
  obtain⟨b,ho⟩:=ho;rw[ho] at hf
  have hpp:(dM ps part).props.length<=1000000:=by
   unfold dM
   cases hm:cY ps part with
   | none=>exact cf _
   | some p=>exact hps p (K1 hm).1
  rw[BI,cb] at hv;have ih:∀k∈e.kids,∀nm,Eg ps day k nm (iN ps day k nm):=λk hk nm=>BX ps day hlen hps d k nm (by have:=yu hk;omega) (he.SX.2 k hk) (all_eq_true.1 hv.2 k hk);obtain⟨p,hp⟩:∃p,p=dM ps part:=⟨_,rfl⟩;rw[<-hp] at hf hpp;refine pB 137 Tryz.func59 ?_;rw[cE e]
  refine(zV) ?_;refine zZ [(3,JJ ps day),(4,.ptr 1 0),(5,.ptr 2 0)] 0 rfl (gm @ak.eq_1)<|zZ [(3,JJ ps day),(4,Ax e),(5,.ptr 2 0)] 1 rfl (gm @ak.eq_1)<|zZ [(3,JJ ps day),(4,Ax e),(5,.ip [ah part])] 2 rfl (gm @ak.eq_1)<|zA [(3,JJ ps day),(4,Ax e),(5,.ip [ah part])] [] zH<|(zC)<|(zK hf (hfl:=.inr zr))<|(cP @ae.eq_1) ?_;refine zZ [(3,JJ ps day),(4,Ax e),(5,.ip [ah part]),(7,.ip (ae p))] 0 rfl (gm (bx @ak.eq_1 @ae.eq_1))<|zA [(3,JJ ps day),(4,Ax e),(5,.ip [ah part]),(7,.ip (ae p))] [] zH<|(og)<|(og)<|zA (wA ps day e part p) [] zH ?_
  (repeat (first | refine aF.seq ?_ | refine aF.block ?_))
  cases o1:decide (e.op=1);rotate_left
  ·have p1:=ww o1
   refine(aA o1)<|(zY) ?_;refine aF.exit ?_
   (try simp only[eV,dh,cq,bP])
   (try change aF _ _ _ _ _)
   exact(zV)<|zo [.tmp 6] (hq:=by rw[Rr p1])
  have n1:=wt o1
  refine(aA o1)<|(zN) ?_
  (try change aF _ _ _ _ _)
  (repeat (first | refine aF.seq ?_ | refine aF.block ?_))
  cases o2:decide (e.op=2);rotate_left
  ·have p2:=ww o2
   refine(aA o2)<|(zY) ?_;refine aF.exit ?_
   (try simp only[eV,dh,cq,bP])
   (try change aF _ _ _ _ _)
   obtain⟨k,hk⟩:=yL hv.1 (.inl p2);have hkp:PC aa 132 ([ab 0]++Ph ps day e part) (·=ab (iN ps day k part)):=vu ps day e part 0 k hk _ (ih k (al hk) part)
   exact(zC)<|(zK hkp (hwk:=cC.refl rfl))<|(zQ)<|(zK (B2 (iN ps day k part)))<|(zR)<|zo [.tmp 6] (hq:=by rw[Rs p2 hk])
  have n2:=wt o2
  refine(aA o2)<|(zN) ?_
  (try change aF _ _ _ _ _)
  (repeat (first | refine aF.seq ?_ | refine aF.block ?_))
  cases o3:decide (e.op=3);rotate_left
  ·have p3:=ww o3
   refine(aA o3)<|(zY) ?_;refine aF.exit ?_
   (try simp only[eV,dh,cq,bP])
   (try change aF _ _ _ _ _)
   have hfo:=pO 134 Cd BW 132 (Ph ps day e part) rfl (e.kids.map λk=>iN ps day k part) (by rw[af];exact he.SX.1) (λi x hi=>by
    obtain⟨k,hk,rfl⟩:=qn hi
    exact vu ps day e part i k hk _ (ih k (al hk) part)) 2
   rw[af] at hfo
   exact(zC)<|(zK hfo (hwk:=cC.refl rfl))<|(zR)<|zo [.tmp 6] (hq:=by rw[Rt p3])
  have n3:=wt o3
  refine(aA o3)<|(zN) ?_
  (try change aF _ _ _ _ _)
  (repeat (first | refine aF.seq ?_ | refine aF.block ?_))
  cases o4:decide (e.op=4);rotate_left
  ·have p4:=ww o4
   refine(aA o4)<|(zY) ?_;refine aF.exit ?_
   (try simp only[eV,dh,cq,bP])
   (try change aF _ _ _ _ _)
   have hfo:=pO 135 Qm GJ 132 (Ph ps day e part) rfl (e.kids.map λk=>iN ps day k part) (by rw[af];exact he.SX.1) (λi x hi=>by
    obtain⟨k,hk,rfl⟩:=qn hi
    exact vu ps day e part i k hk _ (ih k (al hk) part)) 0
   rw[af] at hfo
   exact(zC)<|(zK hfo (hwk:=cC.refl rfl))<|(zR)<|zo [.tmp 6] (hq:=by rw[Ru p4])
  have n4:=wt o4
  refine(aA o4)<|(zN) ?_
  (try change aF _ _ _ _ _)
  (repeat (first | refine aF.seq ?_ | refine aF.block ?_))
  cases o5:decide (e.op=5);rotate_left
  ·have p5:=ww o5
   refine(aA o5)<|(zY) ?_;refine aF.exit ?_
   (try simp only[eV,dh,cq,bP])
   (try change aF _ _ _ _ _)
   have h5:=RU hv.1 p5;refine(aA (Ee (P:=aa) (t:=3) (a:=e.n) (b:=e.extra) i4)) ?_;have hva:=wg p e.name day
   have hvq:du (dM ps part) e.name day=du p e.name day:=by rw[hp]
   generalize du p e.name day=q at hva hvq;obtain⟨⟨v1,v2⟩,cd⟩:=q;unfold G9 at hva
   refine(e9 @ae.eq_1)<|(zK hva (hfl:=.inr zr))<|(zR) ?_
   cases hc:decide (cd=0)
   ·exact(aA hc)<|(cL)<|zo [.tmp 6] (hq:=by rw[Mt p5,hvq,v6 (wt hc)])
   exact(aA hc)<|(Ma)<|(zK (qJ v1 v2 (e.n+e.extra)))<|(zR)<|(aA (show decide (e.op=6)=false by rw[p5];rfl))<|(Ma)<|(zK (B2 _))<|(zR)<|zo [.tmp 6] (hq:=by rw[Mt p5,hvq,ut (ww hc)])
  have n5:=wt o5
  refine(aA o5)<|(zN) ?_
  (try change aF _ _ _ _ _)
  (repeat (first | refine aF.seq ?_ | refine aF.block ?_))
  cases o6:decide (e.op=6);rotate_left
  ·have p6:=ww o6
   refine(aA o6)<|(zY) ?_;refine aF.exit ?_
   (try simp only[eV,dh,cq,bP])
   (try change aF _ _ _ _ _)
   have hva:=wg p e.name day
   have hvq:du (dM ps part) e.name day=du p e.name day:=by rw[hp]
   generalize du p e.name day=q at hva hvq;obtain⟨⟨v1,v2⟩,cd⟩:=q;unfold G9 at hva
   refine(e9 @ae.eq_1)<|(zK hva (hfl:=.inr zr))<|(zR) ?_
   cases hc:decide (cd=0)
   ·exact(aA hc)<|(cL)<|zo [.tmp 6] (hq:=by rw[Mu p6,hvq,v6 (wt hc)])
   exact(aA hc)<|(Ma)<|(zK (qJ v1 v2 (e.n)))<|(zR)<|(aA (show decide (e.op=6)=true by rw[p6];rfl))<|(cL)<|zo [.tmp 6] (hq:=by rw[Mu p6,hvq,ut (ww hc)])
  have n6:=wt o6
  refine(aA o6)<|(zN) ?_
  (try change aF _ _ _ _ _)
  (repeat (first | refine aF.seq ?_ | refine aF.block ?_))
  cases o7:decide (e.op=7);rotate_left
  ·have p7:=ww o7
   refine(aA o7)<|(zY) ?_;refine aF.exit ?_
   (try simp only[eV,dh,cq,bP])
   (try change aF _ _ _ _ _)
   exact(e9 @ae.eq_1)<|(zK (ue p.props ⟨e.name,e.value⟩ hpp))<|(zQ)<|(zK (rF _))<|(zR)<|zo [.tmp 6] (hq:=by rw[Rv p7,<-hp])
  have n7:=wt o7
  refine(aA o7)<|(zN) ?_
  (try change aF _ _ _ _ _)
  (repeat (first | refine aF.seq ?_ | refine aF.block ?_))
  cases o8:decide (e.op=8);rotate_left
  ·have p8:=ww o8
   refine(aA o8)<|(zY) ?_;refine aF.exit ?_
   (try simp only[eV,dh,cq,bP])
   (try change aF _ _ _ _ _)
   exact(e9 @ae.eq_1)<|(zK (Dw (l:=p.props) (λx=>decide (x.key=e.name)) (fid:=141) (first:=[]) (cap:=[Ax e]) hpp (λx _=>LN x e) ⟨rfl,rfl⟩))<|(zQ)<|(zK (rF _))<|(zR)<|zo [.tmp 6] (hq:=by rw[Rw p8,<-hp])
  have n8:=wt o8
  refine(aA o8)<|(zN) ?_
  (try change aF _ _ _ _ _)
  (repeat (first | refine aF.seq ?_ | refine aF.block ?_))
  cases o9:decide (e.op=9);rotate_left
  ·have p9:=ww o9
   refine(aA o9)<|(zY) ?_;refine aF.exit ?_
   (try simp only[eV,dh,cq,bP])
   (try change aF _ _ _ _ _)
   exact(zC)<|(zK (ud (l:=ps) (λq=>decide (q.bu=part)&&(decide (q.slot=e.name)&&decide (q.kind=e.value))) (fid:=142) (first:=[]) (cap:=[.ip [ah part],Ax e]) i4 (λx _=>IE x part e) ⟨rfl,rfl⟩))<|(zQ)<|(zK (rF _))<|(zR)<|zo [.tmp 6] (hq:=by rw[Rx p9])
  have n9:=wt o9
  refine(aA o9)<|(zN) ?_
  (try change aF _ _ _ _ _)
  (repeat (first | refine aF.seq ?_ | refine aF.block ?_))
  refine aF.exit ?_
  (try simp only[eV,dh,cq,bP])
  (try change aF _ _ _ _ _)
  have hin:=AS ps day part e.name hlen;have hil:(ia ps part e.name).length<=ps.length:=b7 (b0 _ _) (mH ps part);obtain⟨N,hN⟩:∃N,N=ia ps part e.name:=⟨_,rfl⟩;rw[<-hN] at hin hil
  refine(jn)<|(zK hin (hfl:=.inr zr))<|(zR) ?_;refine zZ [(3,JJ ps day),(4,Ax e),(9,.fn 131 [] []),(16,.ip [ak 1 N (aG ah)])] 0 rfl (gm @ak.eq_1)<|zA [(3,JJ ps day),(4,Ax e),(9,.fn 131 [] []),(16,.ip [ak 1 N (aG ah)])] [] zH<|(og)<|(zB) ?_
  cases o10:decide (e.op=10);rotate_left
  ·have p10:=ww o10
   refine(aA o10)<|(zY) ?_
   obtain⟨k,hk⟩:=yL hv.1 (.inr (.inl p10))
   have hfo:=pO 134 Cd BW 144 [JJ ps day,Ax e,.ip [ak 1 N (aG ah)]] rfl (N.map λn=>iN ps day k n) (by rw[af];omega) (λi x hi=>by
    obtain⟨nm,hnm,rfl⟩:=qn hi
    exact zF ps day e N i nm hnm k hk _ (ih k (al hk) nm)) 2
   rw[af] at hfo
   exact(e9 @ak.eq_1)<|(zK hfo (hwk:=cC.refl rfl))<|(zR)<|zo [.tmp 6] (hq:=by rw[O9 p10 hk,<-hN])
  have n10:=wt o10
  refine(aA o10)<|(zN) ?_
  cases o11:decide (e.op=11);rotate_left
  ·have p11:=ww o11
   refine(aA o11)<|(zY) ?_
   obtain⟨k,hk⟩:=yL hv.1 (.inr (.inr p11))
   have hfo:=pO 135 Qm GJ 144 [JJ ps day,Ax e,.ip [ak 1 N (aG ah)]] rfl (N.map λn=>iN ps day k n) (by rw[af];omega) (λi x hi=>by
    obtain⟨nm,hnm,rfl⟩:=qn hi
    exact zF ps day e N i nm hnm k hk _ (ih k (al hk) nm)) 0
   rw[af] at hfo
   exact(e9 @ak.eq_1)<|(zK hfo (hwk:=cC.refl rfl))<|(zR)<|zo [.tmp 6] (hq:=by rw[Pa p11 hk,<-hN])
  have n11:=wt o11;have p12:=PY hv.1 n1 n2 n3 n4 n5 n6 n7 n8 n9 n10 n11
  exact(aA o11)<|(zN)<|(e9 @ak.eq_1)<|(zK (rF (decide (e.n<=(N.length:Int)))))<|(zR)<|zo [.tmp 6] (hq:=by rw[Pb p12,<-hN])
def RG(u:Bool)(c:List aU)(dmg:bE):List bC->List ao->List ao×Int
 | [],s=>(s,0)
 | e::r,s=>if (aX c s e).2=0 then RG u c dmg r (if u=true/\e.op=4 then G8 dmg (aX c s e).1 e else (aX c s e).1) else ([],(aX c s e).2)
structure iL where
 name:List Nat
 kind:List Nat
 cond:aZ
def bj(r:iL):List SV:=ah r.name::ah r.kind::bf r.cond
structure uD where
 kind:List Nat
 slot:List Nat
 other:List Nat
 pQ:List Nat
 to:Int
def bR(s:uD):List SV:=[ah s.kind,ah s.slot,ah s.other,ah s.pQ,ab s.to]
structure ea where
 name:List Nat
 kind:List Nat
 key:List Nat
 after:Int
 within:Int
def aQ(d:ea):List SV:=[ah d.name,ah d.kind,ah d.key,ab d.after,ab d.within]
structure pS where
 part:List Nat
 eN:List Nat
 to:Int
def bD(c:pS):List SV:=[ah c.part,ah c.eN,ab c.to]
structure mw where
 id:List Nat
 vehicle:List Nat
 members:List Int
 back:List Int
def bG(h:mw):List SV:=[ah h.id,ah h.vehicle,ak 1 h.members (aG ab),ak 1 h.back (aG ab)]
structure dy where
 rules:List iL
 bB:List uD
 aW:List ea
 cg:List pS
 aL:List iL
 holds:List mw
def az(b:dy):List SV:=[ak 8 b.rules bj,ak 5 b.bB bR,ak 5 b.aW aQ,ak 3 b.cg bD,ak 8 b.aL bj,ak 4 b.holds bG]
structure aC where
 kind:Int
 part:List Nat
 name:List Nat
 deriving DecidableEq
def aM(f:aC):List SV:=[ab f.kind,ah f.part,ah f.name]
def ns(l:List pS)(part eN:List Nat)(day:Int):Bool:=l.any λx=>decide (x.part=part)&&(decide (x.eN=eN)&&decide (day<=x.to))
def rp(c:List aU)(kind name other:List Nat):Bool:=match (dU c kind).bind λk=>pj k.bN name with
 | some s=>decide (0<=fP (λx=>decide (other=x)) s.kinds)&&decide (fP (λx=>decide (other=x)) s.kinds<s.normal)
 | none=>false
def wW(ps:List ao)(p:ao)(slot:List Nat):Bool:=ps.any λx=>decide (x.bu=p.bu)&&(decide (x.slot=slot)&&decide (x.kind=p.kind))
def fY(c:List aU)(bB:List uD)(ps:List ao)(part:List Nat)(day:Int):Bool:=match cY ps part with
 | none=>false
 | some p=>if p.bu=[] then true else match cY ps p.bu with
  | none=>false
  | some h=>rp c h.kind p.slot p.kind||bB.any λs=>(decide (s.kind=h.kind)&&(decide (s.slot=p.slot)&&decide (s.other=p.kind)))&&(decide (day<=s.to)&&(decide (s.pQ=[])||wW ps p s.pQ))
def rO(d:ea):Bool:=cZ d.name&&(cZ d.kind&&(cZ d.key&&(decide (1<=d.after)&&(decide (d.after<=7)&&(decide (0<=d.within)&&decide (d.within<=40000))))))
def Lw(part:List Nat)(day:Int)(e:bC):Bool:=decide (e.part=part)&&decide (e.day<=day)
def C2(d:ea)(l:List bC)(part:List Nat)(day:Int):List Int:=(l.filter λe=>Lw part day e&&(decide (e.op=6)&&decide (e.key=d.key))).map bC.day
def qT(d:ea)(l:List bC)(part:List Nat)(day:Int):List Int:=(l.filter λe=>Lw part day e&&decide (e.op=d.after)).map bC.day
def qu(d:ea)(notes:List Int)(a:Int×Bool)(n:Int):Int×Bool:=
 if (!(notes.any λm=>decide (n<=m)&&decide (m<=n+d.within))&&(!a.2||decide (n+d.within<a.1)))=true then (n+d.within,true) else a
def lG(d:ea)(l:List bC)(part:List Nat)(day:Int):Int×Bool:=(qT d l part day).foldl (qu d (C2 d l part day)) (0,false)
def OT(c:List aU)(l:List bC)(day:Int):List ao×Int:=if qe c=true then RG false c (.mk 0 0 []) (eJ (dV (fe day) l)) [] else ([],1)
def kW(ds:List ea)(c:List aU)(l:List bC)(part:List Nat)(day:Int):List (List Nat×Int):=
 match cY (OT c l day).1 part with
 | none=>[]
 | some p=>if (OT c l day).2≠0\/p.cM=true then [] else ds.filterMap λd=>if rO d=true/\d.kind=p.kind/\(lG d l part day).2=true then some (d.name,(lG d l part day).1) else none
def eH(ds:List ea)(c:List aU)(l:List bC)(part:List Nat)(day:Int):List (List Nat):=LD (((kW ds c l part day).filter λx=>decide (x.2<day)).map (·.1))
def AF(h:mw):Bool:=h.members.any λm=>!h.back.contains m
def lg(c:List aU)(b:dy)(l:List bC)(ps:List ao)(day:Int)(p:ao):List aC:=
 ((b.rules.filter λr=>decide (r.kind=p.kind)&&(!ns b.cg p.name r.name day&&!(decide (nR ps r.cond p.name day=2)))).map λr=>⟨1,p.name,r.name⟩)++
 (((b.aL.filter λr=>decide (r.kind=p.kind)&&!(decide (nR ps r.cond p.name day=0))).map λr=>⟨5,p.name,r.name⟩)++
 ((eH b.aW c l p.name day).map (λn=>⟨3,p.name,n⟩)++
 (if fY c b.bB ps p.name day=true then [] else [⟨2,p.name,p.slot⟩])))
def mF(c:List aU)(b:dy)(l:List bC)(ps:List ao)(vehicle:List Nat)(day:Int)(v:ao):List aC:=
 lg c b l ps day v++(((fQ ps vehicle).flatMap λn=>lg c b l ps day (dM ps n))++((b.holds.filter λh=>decide (h.vehicle=vehicle)&&AF h).map λh=>⟨6,vehicle,h.id⟩))
def vR(ps:List ao)(e:aZ)(part:List Nat)(day:Int)(hlen:ps.length<=100000)(hps:∀p∈ps,p.props.length<=1000000)(he:gn e):PC aa 19 [.ag [ak 14 ps ae],.ag (bf e),ah part,ab day] (·=ab (nR ps e part day)):=by
 have hvr:=wM [114] [107] e ⟨by decide,by decide⟩ ⟨by decide,by decide⟩ he;rw[show(cZ [114]&&(cZ [107]&&nJ e))=nJ e from by rw[show cZ [114]=true from rfl,show cZ [107]=true from rfl];rfl] at hvr;have hro:=D0 ps part i4
 have hak:nJ e=true->Eg ps day e part (iN ps day e part):=λh=>by
  unfold nJ at h;rw[cb] at h;exact BX ps day hlen hps _ e part (be _) he h.2
 unfold Eg at hak;unfold nR;refine pB 25 Tryz.func19 ?_;rw[cE e] at hvr hak ⊢
 refine(zV) ?_;refine zZ [(2,ah part),(3,ab day),(4,.ip [ak 14 ps ae]),(5,.ptr 1 0)] 0 rfl (gm @ak.eq_1)<|zZ [(2,ah part),(3,ab day),(4,.ip [ak 14 ps ae]),(5,Ax e)] 1 rfl (gm @ak.eq_1)<|zA [(2,ah part),(3,ab day),(4,.ip [ak 14 ps ae]),(5,Ax e)] [] zH<|(zC)<|(zK hvr) ?_
 cases g:nJ e
 ·exact(zR)<|(cL)<|zo [.tmp 8] (hq:=by rw[v6 (λh=>bv h.1)])
 refine(zQ)<|(zK hro) ?_
 cases g2:decide (Kj ps part=[]);rotate_left
 ·exact(cP g2)<|(cL)<|zo [.tmp 8] (hq:=by rw[v6 (λh=>h.2 (ww g2))])
 exact(cP g2)<|(Ma)<|(zK (hak g))<|(zR)<|zo [.tmp 8] (hq:=by rw[ut ⟨by trivial,wt g2⟩])
def Cf{α:Type}{p:α->Bool}{l:List α}(h:∀(i:Nat) y,i<l.length->l[i]?=some y->p y=false):l.any p=false:=by
 rw[List.any_eq_false];intro x hx;obtain⟨i,hi⟩:=mem_iff_getElem?.1 hx;rw[h i x (br hi) hi];decide
def Ce{α:Type}{p:α->Bool}{l:List α}{k:Nat}{x:α}(hx:l[k]?=some x)(hp:p x=true):l.any p=true:=List.any_eq_true.2 ⟨x,al hx,hp⟩
def A0{l:List (pS)}(p:pS->Bool)(hlen:l.length<=1000000)(hp:∀x∈l,PC aa fid ((first++[.ag (bD x)])++cap) (·=ai (p x)))(hg:bV first=true/\bV cap=true):PC aa 60 [ak 3 l bD,.fn fid first cap] (·=ai (l.any p)):=by
 refine pB 17 Tryz.func60 ?_;have hn1:=λo:Nat=>cr (o:=o) hg.1;have hn2:=λo:Nat=>cr (o:=o) hg.2
 refine(aA @ak.eq_1)<|(zV)<|(zs) ?_;refine zL l (λk=>∀(i:Nat) y,i<k->l[i]?=some y->p y=false) (λk=>[(0,.sl l.length 3 (l.flatMap bD)),(1,.fn fid first cap),(7,.sl l.length 3 (l.flatMap bD)),(8,ab l.length),(9,ab k)]) (λk=>[]) zH zp ?_;intro k hk hall;refine zT l k ?_ ?_;rintro rfl;rotate_left;intro x hx hlt;rotate_left
 ·exact(gh)<|(zV)<|zo [.tmp 4] (hq:=by rw[Cf hall])
 ·refine(gz)<|(aA (cO hlt (aT (e:=3) (enc:=bD) gc hx) @bD.eq_1))<|zA [(0,.sl l.length 3 (l.flatMap bD)),(1,.fn fid first cap),(6,.ptr 0 0),(7,.sl l.length 3 (l.flatMap bD)),(8,ab l.length),(9,ab k)] [.cells (bD x)] (cm (gr hn1 hn2 @fa @au.{1}))<|(e9 @bD.eq_1)<|(zK (hp x (mem_iff_getElem?.2 ⟨k,hx⟩)) (hwk:=((cC.refl hg.1).app zr).app (cC.refl hg.2))) ?_;refine aK.nil ?_
  change aF _ _ _ _ _;cases hpx:p x
  ·refine(zN)<|(aA (zi hlt hlen)) ?_;refine zX hlt zH ?_
   intro i y hi hy;by_cases hik:i=k
   ·subst hik;rw[hx] at hy;cases hy;exact hpx
   ·exact hall i y i4 hy
  ·exact(cL)<|zo [.tmp 4] (hq:=by rw[Ce hx hpx])
def D2{l:List (uD)}(p:uD->Bool)(hlen:l.length<=1000000)(hp:∀x∈l,PC aa fid ((first++[.ag (bR x)])++cap) (·=ai (p x)))(hg:bV first=true/\bV cap=true):PC aa 67 [ak 5 l bR,.fn fid first cap] (·=ai (l.any p)):=by
 refine pB 17 Tryz.func67 ?_;have hn1:=λo:Nat=>cr (o:=o) hg.1;have hn2:=λo:Nat=>cr (o:=o) hg.2
 refine(aA @ak.eq_1)<|(zV)<|(zs) ?_;refine zL l (λk=>∀(i:Nat) y,i<k->l[i]?=some y->p y=false) (λk=>[(0,.sl l.length 5 (l.flatMap bR)),(1,.fn fid first cap),(7,.sl l.length 5 (l.flatMap bR)),(8,ab l.length),(9,ab k)]) (λk=>[]) zH zp ?_;intro k hk hall;refine zT l k ?_ ?_;rintro rfl;rotate_left;intro x hx hlt;rotate_left
 ·exact(gh)<|(zV)<|zo [.tmp 4] (hq:=by rw[Cf hall])
 ·refine(gz)<|(aA (cO hlt (aT (e:=5) (enc:=bR) gc hx) @bR.eq_1))<|zA [(0,.sl l.length 5 (l.flatMap bR)),(1,.fn fid first cap),(6,.ptr 0 0),(7,.sl l.length 5 (l.flatMap bR)),(8,ab l.length),(9,ab k)] [.cells (bR x)] (cm (gr hn1 hn2 @fa @au.{1}))<|(e9 @bR.eq_1)<|(zK (hp x (mem_iff_getElem?.2 ⟨k,hx⟩)) (hwk:=((cC.refl hg.1).app zr).app (cC.refl hg.2))) ?_;refine aK.nil ?_
  change aF _ _ _ _ _;cases hpx:p x
  ·refine(zN)<|(aA (zi hlt hlen)) ?_;refine zX hlt zH ?_
   intro i y hi hy;by_cases hik:i=k
   ·subst hik;rw[hx] at hy;cases hy;exact hpx
   ·exact hall i y i4 hy
  ·exact(cL)<|zo [.tmp 4] (hq:=by rw[Ce hx hpx])
def GN{l:List (ao)}(p:ao->Bool)(hlen:l.length<=1000000)(hp:∀x∈l,PC aa fid ((first++[.ag (ae x)])++cap) (·=ai (p x)))(hg:bV first=true/\bV cap=true):PC aa 151 [ak 14 l ae,.fn fid first cap] (·=ai (l.any p)):=by
 refine pB 17 Tryz.func151 ?_;have hn1:=λo:Nat=>cr (o:=o) hg.1;have hn2:=λo:Nat=>cr (o:=o) hg.2
 refine(aA @ak.eq_1)<|(zV)<|(zs) ?_;refine zL l (λk=>∀(i:Nat) y,i<k->l[i]?=some y->p y=false) (λk=>[(0,.sl l.length 14 (l.flatMap ae)),(1,.fn fid first cap),(7,.sl l.length 14 (l.flatMap ae)),(8,ab l.length),(9,ab k)]) (λk=>[]) zH zp ?_;intro k hk hall;refine zT l k ?_ ?_;rintro rfl;rotate_left;intro x hx hlt;rotate_left
 ·exact(gh)<|(zV)<|zo [.tmp 4] (hq:=by rw[Cf hall])
 ·refine(gz)<|(aA (cO hlt (aT (e:=14) (enc:=ae) gc hx) @ae.eq_1))<|zA [(0,.sl l.length 14 (l.flatMap ae)),(1,.fn fid first cap),(6,.ptr 0 0),(7,.sl l.length 14 (l.flatMap ae)),(8,ab l.length),(9,ab k)] [.cells (ae x)] (cm (gr hn1 hn2 @fa @au.{1}))<|(e9 @ae.eq_1)<|(zK (hp x (mem_iff_getElem?.2 ⟨k,hx⟩)) (hwk:=((cC.refl hg.1).app zr).app (cC.refl hg.2))) ?_;refine aK.nil ?_
  change aF _ _ _ _ _;cases hpx:p x
  ·refine(zN)<|(aA (zi hlt hlen)) ?_;refine zX hlt zH ?_
   intro i y hi hy;by_cases hik:i=k
   ·subst hik;rw[hx] at hy;cases hy;exact hpx
   ·exact hall i y i4 hy
  ·exact(cL)<|zo [.tmp 4] (hq:=by rw[Ce hx hpx])
def DA(x:pS)(part eN:List Nat)(day:Int):PC aa 61 ([.ag (bD x)]++[.ip [ah part],.ip [ah eN],.ip [ab day]]) (·=ai (decide (x.part=part)&&(decide (x.eN=eN)&&decide (day<=x.to)))):=by
 refine pB 22 Tryz.func61 ?_;refine(aA @bD.eq_1) ?_;cases g1:decide (x.part=part)
 ·exact(aA g1)<|zo [.tmp 5]
 cases g2:decide (x.eN=eN)
 ·exact(aA (bx g1 g2))<|zo [.tmp 5]
 ·exact(aA (bx g1 g2))<|zo [.tmp 5]
def DB(l:List pS)(part eN:List Nat)(day:Int)(hlen:l.length<=1000000):PC aa 20 [ak 3 l bD,ah part,ah eN,ab day] (·=ai (ns l part eN day)):=by
 have hs:=A0 (l:=l) (λx=>decide (x.part=part)&&(decide (x.eN=eN)&&decide (day<=x.to))) (fid:=61) (first:=[]) (cap:=[.ip [ah part],.ip [ah eN],.ip [ab day]]) hlen (λx _=>DA x part eN day) ⟨rfl,rfl⟩
 refine pB 12 Tryz.func20 ?_;refine(zV) ?_;exact zZ [(0,ak 3 l bD),(5,.ip [ah part]),(6,.ptr 1 0),(7,.ptr 2 0)] 0 rfl (gm @ak.eq_1)<|zZ [(0,ak 3 l bD),(5,.ip [ah part]),(6,.ip [ah eN]),(7,.ptr 2 0)] 1 rfl (gm @ak.eq_1)<|zZ [(0,ak 3 l bD),(5,.ip [ah part]),(6,.ip [ah eN]),(7,.ip [ab day])] 2 rfl (gm @ak.eq_1)<|zA [(0,ak 3 l bD),(5,.ip [ah part]),(6,.ip [ah eN]),(7,.ip [ab day])] [] zH<|(zC)<|(zK hs)<|(zR)<|zo [.tmp 8]
def Gy{l:List (Int)}(p:Int->Bool)(hlen:l.length<=1000000)(hp:∀x∈l,PC aa fid ((first++[ab x])++cap) (·=ai (p x)))(hg:bV first=true/\bV cap=true):PC aa 160 [ak 1 l (aG ab),.fn fid first cap] (·=ab (fP p l)):=by
 refine pB 19 Tryz.func160 ?_;refine(aA @ak.eq_1)<|(zV)<|(zs) ?_;refine zL l (λk=>∀(i:Nat) y,i<k->l[i]?=some y->p y=false) (λk=>[(0,.sl l.length 1 (l.flatMap (aG ab))),(1,.fn fid first cap),(7,ab l.length),(8,ab k)]) (λk=>[]) zH zp ?_;intro k hk hall;refine zT l k ?_ ?_;rintro rfl;rotate_left;intro x hx hlt;rotate_left
 ·exact(gh)<|(zV)<|zo [.tmp 4] (hq:=by rw[hY hall])
 ·refine(gz)<|(zV)<|(e9 (cO hlt (aT (e:=1) (enc:=(aG ab)) gc hx) @aG.eq_1))<|(zK (hp x (mem_iff_getElem?.2 ⟨k,hx⟩)) (hwk:=((cC.refl hg.1).app zr).app (cC.refl hg.2))) ?_;refine aK.nil ?_
  change aF _ _ _ _ _;cases hpx:p x
  ·refine(zN)<|(aA (zi hlt hlen)) ?_;refine zX hlt zH ?_
   intro i y hi hy;by_cases hik:i=k
   ·subst hik;rw[hx] at hy;cases hy;exact hpx
   ·exact hall i y i4 hy
  ·exact(cL)<|zo [.tmp 4] (hq:=by rw[lQ hx hpx hall])
def vN{l:List (Int)}(p:Int->Bool)(hlen:l.length<=1000000)(hp:∀x∈l,PC aa fid ((first++[ab x])++cap) (·=ai (p x)))(hg:bV first=true/\bV cap=true):PC aa 80 [ak 1 l (aG ab),.fn fid first cap] (·=ai (l.any p)):=by
 refine pB 9 Tryz.func80 ?_;exact(jn)<|(zK (Gy p hlen hp hg) (hwk:=.cons (Wk.sl _ _ _) (.cons (.fn (cC.refl hg.1) (cC.refl hg.2)) .nil)))<|(zR)<|zo [.tmp 4] (hq:=by rw[nw])
def AP(l:List Int)(s:Int)(hlen:l.length<=1000000):PC aa 161 [ak 1 l (aG ab),ab s] (·=ab (fP (λx=>decide (s=x)) l)):=by
 refine pB 19 Tryz.func161 ?_;refine(og)<|(zs) ?_;refine zL l (λk=>∀(i:Nat) y,i<k->l[i]?=some y->decide (s=y)=false) (λk=>[(0,.sl l.length 1 (l.flatMap (aG ab))),(1,ab s),(7,ab l.length),(8,ab k)]) (λk=>[]) zH zp ?_;intro k hk hall;refine zT l k ?_ ?_;rintro rfl;rotate_left;intro x hx hlt;rotate_left
 ·exact(gh)<|(zV)<|zo [.tmp 4] (hq:=by rw[hY hall])
 ·refine(gz)<|(zV)<|(aA (cO hlt (aT (e:=1) (enc:=aG ab) gc hx) @aG.eq_1)) ?_
  cases hpx:decide (s=x)
  ·refine(zN)<|(aA (zi hlt hlen)) ?_;refine zX hlt zH ?_
   intro i y hi hy;by_cases hik:i=k
   ·subst hik;rw[hx] at hy;cases hy;exact hpx
   ·exact hall i y i4 hy
  ·exact(cL)<|zo [.tmp 4] (hq:=by rw[lQ hx hpx hall])
def vt(l:List Int)(s:Int)(hlen:l.length<=1000000):PC aa 82 [ak 1 l (aG ab),ab s] (·=ai (l.contains s)):=by
 have hc:l.contains s=l.any λx=>decide (s=x):=by
  rw[dt,bw,List.any_eq_true];exact⟨λh=>⟨s,h,wl rfl⟩,λ⟨x,h,e⟩=>by rw[ww e];exact h⟩
 rw[hc]
 refine pB 9 Tryz.func82 ?_;exact(jn)<|(zK (AP l s hlen))<|(zR)<|zo [.tmp 4] (hq:=by rw[nw])
def LV(h:mw)(m:Int)(hlen:h.back.length<=1000000):PC aa 81 ([ab m]++[.ip (bG h)]) (·=ai (!h.back.contains m)):=by
 refine pB 9 Tryz.func81 ?_;exact(zV)<|(e9 @bG.eq_1)<|(zK (vt h.back m hlen))<|(zR)<|zo [.tmp 3]
def LW(h:mw)(hm:h.members.length<=1000000)(hb:h.back.length<=1000000):PC aa 32 [.ag (bG h)] (·=ai (AF h)):=by
 refine pB 7 Tryz.func32 ?_;refine(aA @bG.eq_1) ?_;exact zZ [(1,.ip (bG h))] 0 rfl (gm (bx @ak.eq_1 @bG.eq_1))<|zA [(1,.ip (bG h))] [] zH<|(e9 @bG.eq_1)<|(zK (vN (l:=h.members) (λm=>!h.back.contains m) (fid:=81) (first:=[]) (cap:=[.ip (bG h)]) hm (λm _=>LV h m hb) ⟨rfl,rfl⟩))<|(zR)<|zo [.tmp 2]
def DP(l:List aU)(kind name other:List Nat)(hlen:l.length<=1000000)(hs:∀k∈l,k.bN.length<=1000000/\∀s∈k.bN,s.kinds.length<=1000000):PC aa 66 [.ag [ak 3 l aq],ah kind,ah name,ah other] (·=ai (rp l kind name other)):=by
 refine pB 34 Tryz.func66 ?_;have hF:=Ad l kind name hlen λk hk=>(hs k hk).1;refine(jn) ?_;unfold rp
 cases hf:(dU l kind).bind λk=>pj k.bN name with
 | none=>
  rw[hf] at hF
  exact(zK hF (hfl:=.inr zr))<|(cP (cO @iU.eq_1 @bJ.eq_1 @jS.zero.eq_1))<|(zC)<|(zK (nY [] other ge) (hwk:=cC.refl rfl))<|(zR)<|(zV)<|zo [.tmp 8]
 | some q=>
  have hq:q.kinds.length<=1000000:=by
   obtain⟨k,hk,h2⟩:=ul hf;exact(hs k (b8 hk)).2 q (b8 h2)
  rw[hf] at hF;have hI:=nY q.kinds other hq;obtain⟨j,hj⟩:∃j,j=fP (λx=>decide (other=x)) q.kinds:=⟨_,rfl⟩;rw[<-hj] at hI
  refine(zK hF (hfl:=.inr zr))<|(cP (bx @iU.eq_1 @bJ.eq_1))<|(zC)<|(zK hI)<|(zR) ?_
  cases g:decide (0<=j)
  ·exact(aA g)<|zo [.tmp 8] (hq:=by show _=ai (decide (0<=fP (λx=>decide (other=x)) q.kinds)&&decide (fP (λx=>decide (other=x)) q.kinds<q.normal));rw[<-hj,g];rfl)
  ·exact(aA g)<|zo [.tmp 8] (hq:=by show _=ai (decide (0<=fP (λx=>decide (other=x)) q.kinds)&&decide (fP (λx=>decide (other=x)) q.kinds<q.normal));rw[<-hj,g];rfl)
def Ds(x p h:ao)(slot:List Nat):PC aa 152 ([.ag (ae x)]++[.ip (ae p++ae h),.ip [ah slot]]) (·=ai (decide (x.bu=p.bu)&&(decide (x.slot=slot)&&decide (x.kind=p.kind)))):=by
 refine pB 25 Tryz.func152 ?_;refine(aA @ae.eq_1) ?_;cases g1:decide (x.bu=p.bu)
 ·exact(aA (gr g1 @ae.eq_1 @cons_append.{0} @nil_append.{0}))<|zo [.tmp 4]
 cases g2:decide (x.slot=slot)
 ·exact(aA (na g1 g2 @ae.eq_1 @cons_append.{0} @nil_append.{0}))<|zo [.tmp 4]
 ·exact(aA (na g1 g2 @ae.eq_1 @cons_append.{0} @nil_append.{0}))<|zo [.tmp 4]
def Dt(ps:List ao)(p h:ao)(slot:List Nat)(hlen:ps.length<=1000000):PC aa 69 [.ag (ae p++ae h),.ag [ak 14 ps ae],ah slot] (·=ai (wW ps p slot)):=by
 have hs:=GN (l:=ps) (λx=>decide (x.bu=p.bu)&&(decide (x.slot=slot)&&decide (x.kind=p.kind))) (fid:=152) (first:=[]) (cap:=[.ip (ae p++ae h),.ip [ah slot]]) hlen (λx _=>Ds x p h slot) ⟨rfl,rfl⟩
 refine pB 11 Tryz.func69 ?_;refine(aA (cO @ae.eq_1 @cons_append.{0} @nil_append.{0})) ?_;exact zZ [(3,.ip (ae p++ae h)),(4,.ptr 1 0),(5,.ptr 2 0)] 0 rfl (gm (bx @ak.eq_1 @ae.eq_1))<|zZ [(3,.ip (ae p++ae h)),(4,.ip [ak 14 ps ae]),(5,.ptr 2 0)] 1 rfl (gm @ak.eq_1)<|zZ [(3,.ip (ae p++ae h)),(4,.ip [ak 14 ps ae]),(5,.ip [ah slot])] 2 rfl (gm @ak.eq_1)<|zA [(3,.ip (ae p++ae h)),(4,.ip [ak 14 ps ae]),(5,.ip [ah slot])] [] zH<|(zC)<|(zK hs)<|(zR)<|zo [.tmp 6]
def sub_eq(a b:uD):fJ eC [AV.str a.kind,.str a.slot,.str a.other,.str a.pQ,.int .i64 a.to] [AV.str b.kind,.str b.slot,.str b.other,.str b.pQ,.int .i64 b.to]=(decide (a.kind=b.kind)&&(decide (a.slot=b.slot)&&(decide (a.other=b.other)&&(decide (a.pQ=b.pQ)&&decide (a.to=b.to))))):=by
 simp only[fJ,eC,Ay,sf,lq,Bool.true_and,Bool.and_true]
def Iz(s:uD)(x y z:List Nat):dk aa .eql 147 (.agg [.str s.kind,.str s.slot,.str s.other,.str s.pQ,.int .i64 s.to]) (.agg [.str x,.str y,.str z,.str s.pQ,.int .i64 s.to])=some (.bool (decide (s.kind=x)&&(decide (s.slot=y)&&decide (s.other=z)))):=
 sK (ks:=[.s,.s,.s,.s,.i .i64]) zW zW (by simp only[aB,m6]) rfl rfl (by rw[sub_eq s ⟨x,y,z,s.pQ,s.to⟩];simp)
def GK(ps:List ao)(p h:ao)(day:Int)(s:uD)(hlen:ps.length<=1000000):PC aa 68 ([.ag (bR s)]++[.ip (ae h),.ip (ae p++ae h),.ip [ab day],.ip [ak 14 ps ae]]) (·=ai ((decide (s.kind=h.kind)&&(decide (s.slot=p.slot)&&decide (s.other=p.kind)))&&(decide (day<=s.to)&&(decide (s.pQ=[])||wW ps p s.pQ)))):=by
 have heq:=Iz s h.kind p.slot p.kind;generalize (decide (s.kind=h.kind)&&(decide (s.slot=p.slot)&&decide (s.other=p.kind)))=g1 at heq;have hb:=Dt ps p h s.pQ hlen;refine pB 42 Tryz.func68 ?_;rw[show ae p++ae h=[ah p.name,ah p.kind,ah p.bu,ah p.slot,ab p.made,ab p.since,ai p.cM,ak 2 p.props aI,ab p.l1,ab p.l2,ab p.l3,ab p.l4,ab p.l5,ab p.l6,ah h.name,ah h.kind,ah h.bu,ah h.slot,ab h.made,ab h.since,ai h.cM,ak 2 h.props aI,ab h.l1,ab h.l2,ab h.l3,ab h.l4,ab h.l5,ab h.l6] from rfl] at hb ⊢
 refine(aA @bR.eq_1)<|(aA (bx @ae.eq_1 @bR.eq_1)) ?_
 cases g1
 ·exact(aA heq)<|zo [.tmp 6]
 cases g2:decide (day<=s.to)
 ·exact(aA (bx heq g2))<|zo [.tmp 6]
 cases g3:decide (s.pQ=[]);rotate_left
 ·exact(aA (cO heq g2 g3))<|zo [.tmp 6]
 exact(e9 (cO heq g2 g3))<|(zK hb)<|(zR)<|zo [.tmp 6]
abbrev wP(c:List aU)(bB:List uD)(ps:List ao)(part:List Nat)(day:Int):Fm:=[(1,ak 5 bB bR),(3,ah part),(5,.ip [ak 3 c aq]),(7,.ip [ak 14 ps ae]),(9,.ip [ab day])]
def wK(c:List aU)(bB:List uD)(ps:List ao)(part:List Nat)(day:Int)(hc:mu c)(hsub:bB.length<=1000000)(hlen:ps.length<=1000000):PC aa 23 [.ag [ak 3 c aq],ak 5 bB bR,.ag [ak 14 ps ae],ah part,ab day] (·=ai (fY c bB ps part day)):=by
 have hf:=iA ps part hlen;have hs8:∀k∈c,k.bN.length<=1000000/\∀s∈k.bN,s.kinds.length<=1000000:=λk hk=>⟨(hc.kind k hk).2,λs hs=>(hc.slot k hk s hs).2⟩;unfold fY
 refine pB 56 Tryz.func23 ?_;refine(zV) ?_;refine zZ [(1,ak 5 bB bR),(3,ah part),(5,.ip [ak 3 c aq]),(7,.ptr 1 0),(9,.ptr 2 0)] 0 rfl (gm @ak.eq_1)<|zZ [(1,ak 5 bB bR),(3,ah part),(5,.ip [ak 3 c aq]),(7,.ip [ak 14 ps ae]),(9,.ptr 2 0)] 1 rfl (gm @ak.eq_1)<|zZ (wP c bB ps part day) 2 rfl (gm @ak.eq_1)<|zA (wP c bB ps part day) [] zH<|(zC) ?_;refine aK.k ii rfl rfl ii rfl zc (hf) (zw) (.inr (cC.refl (by cases cY ps part<;>rfl))) ?_
 cases hm:cY ps part with
 | none=>
  exact(cP (cO @iU.eq_1 @ae.eq_1 @ao.zero.eq_1))<|(wO)<|(zV)<|zo [.tmp 10]
 | some p=>
  have hf2:=iA ps p.bu hlen;refine(cP (bx @iU.eq_1 @ae.eq_1)) ?_;cases g1:decide (p.bu=[]);rotate_left
  ·exact(aA g1)<|(cL)<|zo [.tmp 10] (hq:=by show _=ai (if p.bu=[] then true else _);rw[ut (ww g1)])
  refine(aA g1)<|(zN) ?_;refine zZ ((11,.ip (ae p))::wP c bB ps part day) 0 rfl (gm (bx @ak.eq_1 @ae.eq_1))<|zA ((11,.ip (ae p))::wP c bB ps part day) [] zH<|(e9 @ae.eq_1) ?_;refine aK.k ii rfl rfl ii rfl zc (hf2) (zw) (.inr (cC.refl (by cases cY ps p.bu<;>rfl))) ?_
  cases hm2:cY ps p.bu with
  | none=>
   exact(cP (cO @iU.eq_1 @ae.eq_1 @ao.zero.eq_1))<|(aA @ae.eq_1)<|(zB)<|(wO)<|(zV)<|zo [.tmp 10] (hq:=by show _=ai (if p.bu=[] then true else _);rw[v6 (wt g1),hm2])
  | some h=>
   refine(cP (bx @iU.eq_1 @ae.eq_1)) ?_;refine zZ ((13,.ip (ae h))::(12,ai true)::(11,.ip (ae p))::wP c bB ps part day) 0 rfl (gm (bx @ak.eq_1 @ae.eq_1))<|zA ((13,.ip (ae h))::(12,ai true)::(11,.ip (ae p))::wP c bB ps part day) [] zH<|(aA @ae.eq_1) ?_;refine zZ ((14,.ip (ae p++ae h))::(13,.ip (ae h))::(12,ai true)::wP c bB ps part day) 0 rfl (gm (bx @ak.eq_1 @ae.eq_1))<|zA ((14,.ip (ae p++ae h))::(13,.ip (ae h))::(12,ai true)::wP c bB ps part day) [] zH ?_
   have hs:=D2 (l:=bB) (λs=>(decide (s.kind=h.kind)&&(decide (s.slot=p.slot)&&decide (s.other=p.kind)))&&(decide (day<=s.to)&&(decide (s.pQ=[])||wW ps p s.pQ))) (fid:=68) (first:=[]) (cap:=[.ip (ae h),.ip (ae p++ae h),.ip [ab day],.ip [ak 14 ps ae]]) hsub (λs _=>GK ps p h day s hlen) ⟨rfl,rfl⟩
   refine(zB)<|(Ec)<|(e9 (cO @ae.eq_1 @cons_append.{0} @nil_append.{0}))<|(zK (DP c h.kind p.slot p.kind hc.len hs8)) ?_
   cases hn:rp c h.kind p.slot p.kind
   ·exact(zR)<|(Ma)<|(zK hs)<|(zR)<|zo [.tmp 10] (hq:=by show _=ai (if p.bu=[] then true else _);rw[v6 (wt g1),hm2];show _=ai (rp c h.kind p.slot p.kind||_);rw[hn];rfl)
   ·exact(zR)<|(cL)<|zo [.tmp 10] (hq:=by show _=ai (if p.bu=[] then true else _);rw[v6 (wt g1),hm2];show _=ai (rp c h.kind p.slot p.kind||_);rw[hn];rfl)
structure B6 (d:ea):Prop where
 name:fi d.name
 kind:fi d.kind
 key:fi d.key
def Iy(d:ea)(hd:B6 d):PC aa 146 [.ag (aQ d)] (·=ai (rO d)):=by
 refine pB 43 Tryz.func146 ?_;unfold rO
 refine(aA @aQ.eq_1) ?_;refine zZ [(1,.ip (aQ d))] 0 rfl (gm @aQ.eq_1)<|zA [(1,.ip (aQ d))] [] zH<|(e9 @aQ.eq_1)<|(zK (dW d.name hd.name)) ?_
 cases cZ d.name
 ·exact(zR)<|zo [.tmp 2]
 refine(L5 @aQ.eq_1)<|(zK (dW d.kind hd.kind)) ?_
 cases cZ d.kind
 ·exact(zR)<|zo [.tmp 2]
 refine(L5 @aQ.eq_1)<|(zK (dW d.key hd.key)) ?_
 cases cZ d.key
 ·exact(zR)<|zo [.tmp 2]
 cases g1:decide (1<=d.after)
 ·exact(cP (bx g1 @aQ.eq_1))<|zo [.tmp 2]
 cases g2:decide (d.after<=7)
 ·exact(cP (cO g1 g2 @aQ.eq_1))<|zo [.tmp 2]
 cases g3:decide (0<=d.within)
 ·exact(cP (gr g1 g2 g3 @aQ.eq_1))<|zo [.tmp 2]
 ·exact(cP (gr g1 g2 g3 @aQ.eq_1))<|zo [.tmp 2]
def LX(e:bC)(part:List Nat)(day:Int):PC aa 228 ([.ag (ar e)]++[.ip [ah part],.ip [ab day]]) (·=ai (Lw part day e)):=by
 refine pB 15 Tryz.func228 ?_;unfold Lw;rw[dz];refine(zV) ?_;cases g1:decide (e.part=part)
 ·exact(aA g1)<|zo [.tmp 4]
 ·exact(aA g1)<|zo [.tmp 4]
def GI(e:bC)(d:ea):PC aa 230 ([.ag (ar e)]++[.ip (aQ d)]) (·=ai (decide (e.op=6)&&decide (e.key=d.key))):=by
 refine pB 15 Tryz.func230 ?_;rw[dz];refine(zV) ?_;cases g1:decide (e.op=6)
 ·exact(aA g1)<|zo [.tmp 3]
 ·exact(aA (bx g1 @aQ.eq_1))<|zo [.tmp 3]
def Gh(e:bC)(d:ea):PC aa 231 ([.ag (ar e)]++[.ip (aQ d)]) (·=ai (decide (e.op=d.after))):=by
 refine pB 10 Tryz.func231 ?_;rw[dz]
 exact(zV)<|(aA @aQ.eq_1)<|zo [.tmp 3]
def LS(n b:Int)(d:ea)(hb:0<=b/\b<=40000)(hw:0<=d.within/\d.within<=40000):PC aa 232 ([ab n]++[.ip [ab b],.ip (aQ d)]) (·=ai (decide (b<=n)&&decide (n<=b+d.within))):=by
 refine pB 17 Tryz.func232 ?_;refine(zV) ?_;cases g1:decide (b<=n)
 ·exact(aA g1)<|zo [.tmp 4]
 ·exact(aA (cO g1 @aQ.eq_1 (Ee (P:=aa) (t:=3) (show -9223372036854775808<=b+d.within/\b+d.within<=9223372036854775807 from⟨by omega,by omega⟩))))<|zo [.tmp 4]
structure nh where
 f:SV
 p:bC->Bool
def kO(c:nh):List SV:=[c.f]
def nh.ok(c:nh):Prop:=∃g cap,c.f=.fn g [] cap/\bV cap=true/\∀e,PC aa g ([.ag (ar e)]++cap) (·=ai (c.p e))
def Gm(c:nh)(hc:c.ok)(e:bC):PC aa 283 ([c.f]++[.ip (ar e)]) (·=ai (!(c.p e))):=by
 obtain⟨g,cap,h1,h2,h3⟩:=hc;have h3:=h3 e;have hk2:∀o:Nat,cap.map (aO o)=cap:=λo=>bU h2;have hn2:∀o:Nat,eG o cap=false:=λo=>cr h2;rw[h1];refine pB 8 Tryz.func283 ?_;rw[dz] at h3 ⊢
 exact(jn)<|(zK h3 (hwk:=.cons (.ag zr) (cC.refl h2)))<|(zR)<|zo [.tmp 3]
end Go.Proofs
