/- Lemmas of this claim, each with its conditions. -/
import Derived.Test.YtjiejanfnnieaaaGreatR6
import Derived.Test.YtjiejanfnnieaaaGreatR5
import Derived.Test.YtjiejanfnnieaaaGreatR4
import Derived.Test.YtjiejanfnnieaaaGreatR3
import Derived.Test.YtjiejanfnnieaaaGreatR2
set_option linter.all false
set_option maxHeartbeats 8000000
open List (nil_append flatMap_cons all_eq_true drop_zero mem_iff_getElem? filterMap_nil Perm map_nil set_cons_zero take_zero flatMap_nil mem_filter mem_map)
open Bool (not_not)
open Go.Proofs.Tryz (func129 func215 func216 func224 func274)
open Nat renaming reduceEqDiff -> aa, reduceLeDiff -> af, reduceAdd -> al, reduceLT -> am, reduceMul -> ap, le_refl -> bb, add_zero -> bw, reduceSub -> b7, mul_one -> b9, le_trans -> ce, lt_succ_self -> ci, not_lt_zero -> co, zero_le -> cv, sub_self -> dd, min_eq_left -> dv, pos_of_ne_zero -> dC, add_assoc -> ht, zero_add -> hG
open Go.Proofs.Tryz renaming prog -> ac, func136 -> dE
open List renaming length_map -> ad, mem_of_getElem? -> ay, mem_cons_of_mem -> ba, mem_cons_self -> be, mem_map_of_mem -> bh, drop_of_length_le -> bi, length_take -> bk, take_of_length_le -> bt, append_nil -> bv, take_length -> bF, getElem?_map -> bX, take_append_of_le_length -> b0, flatMap_append -> b8, filter_cons -> ca, length_filter_le -> cb, map_cons -> cc, find?_cons -> ch, length_filterMap_le -> ck, set_eq_take_append_cons_drop -> cl, drop_append -> cn, getElem?_cons_succ -> cp, append_assoc -> c5, contains_iff_mem -> c6, sizeOf_lt_of_mem -> dc, cons_append -> dl, drop_length -> dt, map_append -> d6, mem_or_eq_of_mem_set -> d7, getElem?_drop -> d8, getElem?_take -> d9, getElem?_cons_zero -> el, replicate -> em, takeWhile -> es, filterMap_append -> ey, all_append -> e4, length_set -> e5, mem_of_mem_drop -> e6, mem_of_mem_take -> fd, drop_succ_cons -> fm, filterMap_cons -> fv, filter_eq_self -> fx, takeWhile_cons -> fy, take_succ_cons -> fN, nodup_nil -> f0, filter_append -> f4, mem_singleton -> f5, pairwise_cons -> f6, set_cons_succ -> f7, length_drop -> f9, take_append -> gd, filter_nil -> g5, foldl_cons -> g6, drop_drop -> g7, length -> g8
open Bool renaming and_eq_true -> aj, not_eq_true' -> bc, false_ne_true -> ct, not_eq_true -> f8, eq_iff_iff -> go, or_eq_true -> gv, true_and -> hu
open And renaming intro -> bd
open Int renaming le_refl -> fi, toNat_natCast -> f3, le_trans -> hD
namespace Go.Proofs
open Go.Ev
set_option maxRecDepth 100000
def je(ls:List (List Nat))(hd:iU):List (List Nat):=(hd.filter λe=>ls.contains e.2).map (·.1)
def IJ(ls:List (List Nat))(hd:iU)(e:List Nat×List Nat):je ls (hd++[e])=je ls hd++(if ls.contains e.2=true then [e.1] else []):=by
 unfold je;rw[f4,d6];cases h:ls.contains e.2
 ·rw[ca,v6 (by rw[h];decide)];rfl
 ·rw[ca,ut h];rfl
def yA{k:List Nat}:∀{l:iU},(jM k l).length<=l.length
 | []=>bb _
 | e::l=>by
  rw[jM];split
  ·exact Nat.le_succ _
  ·exact Nat.succ_le_succ yA
def vW:∀(ks:List (List Nat)) {r:iU},(r.map (·.1)).Nodup->ks.foldl (λr k=>jM k r) r=r.filter λe=>!ks.contains e.1
 | [],r,_=>by
  rw[List.foldl_nil];symm;rw[fx];intro a _;rfl
 | k::ks,r,h=>by
  rw[g6,lg h];have hn:((r.filter λe=>!decide (e.1=k)).map (·.1)).Nodup:=h.sublist ((List.filter_sublist).map _);rw[vW ks hn,List.filter_filter]
  congr 1
  funext e;rw[List.contains_cons];by_cases hh:e.1=k
  ·simp[hh]
  ·simp[hh]
def LG{r:iU}{ls mo:List (List Nat)}(hn:(r.map (·.1)).Nodup)(hm:mo.Perm (je ls r)):mo.foldl (λr k=>jM k r) r=r.filter λe=>!ls.contains e.2:=by
 rw[vW mo hn];apply List.filter_congr;intro e he
 congr 1
 rw[go,c6,hm.mem_iff];unfold je;constructor
 ·intro h;obtain⟨e',he',h2⟩:=mem_map.1 h;obtain⟨h3,h4⟩:=mem_filter.1 he'
  have:e'=e:=by
   obtain⟨i,hi⟩:=mem_iff_getElem?.1 h3;obtain⟨j,hj⟩:=mem_iff_getElem?.1 he
   have g1:(r.map (·.1))[i]?=some e'.1:=by rw[bX,hi];rfl
   have g2:(r.map (·.1))[j]?=some e'.1:=by rw[bX,hj,h2];rfl
   have:=(List.getElem?_inj (bo g1) hn).1 (g1.trans g2.symm);subst this;rw[hi] at hj;cases hj;rfl
  rw[this] at h4;exact h4
 ·intro h;exact bh (mem_filter.2 ⟨he,h⟩)
def C2:∀(l:List ak) (i:Nat) (m:List (List Nat×Int)),(nv i m l).length<=m.length+l.length
 | [],_,_=>bb _
 | p::r,i,m=>by
  rw[nv];refine ce (C2 r _ _) ?_
  cases h:dA p.name m with
  | true=>simp only[if_true,i7];omega
  | false=>simp only[Bool.false_eq_true,if_false,pc h,li,i7,i5];omega
def Ab{α:Type}(p:α->Bool):∀l:List α,(l.filter p).length+(l.filter λx=>!p x).length=l.length
 | []=>rfl
 | a::l=>by
  have:=Ab p l;cases h:p a
  ·rw[ca,v6 (by rw[h];decide),ca,ut (by rw[h];rfl),i7,i7];omega
  ·rw[ca,ut h,ca,v6 (by rw[h];decide),i7,i7];omega
def II{ls:List (List Nat)}{a b:iU}(h:a.Perm b):(je ls a).Perm (je ls b):=(h.filter _).map _
def cE{p o e n:Nat}(h:o≠p):names p (bY o e n)=false:=by
 unfold bY;split
 ·exact ml _
 ·rw[names];exact wd h
def dK(q:Nat->Nat)(o e n:Nat):fq q (bY o e n)=bY (q o) e n:=by
 unfold bY;split
 ·rw[Pj]
 ·rw[DZ]
def zy(r:iU)(bs:List Nat)(c:Nat):SO:=.map (r.map λe=>.str e.1) (r.map λe=>ah e.2) (some (bs,c))
def vy(o:Nat)(r:iU)(bs:List Nat)(c:Nat):bW o (zy r bs c)=zy r bs c:=by
 unfold zy;rw[bW]
 congr 1
 exact bV (pP (uv:=ah) (λ_=>rfl) r)
def K1(q:Nat->Nat)(r:iU)(bs:List Nat)(c:Nat):qa q (zy r bs c)=zy r bs c:=by
 unfold zy;rw[KT]
 congr 1
 exact bl (pP (uv:=ah) (λ_=>rfl) r)
def K0(q:Nat->Nat)(r:iU):qa q (bG AV.str ah r)=bG AV.str ah r:=by
 unfold bG;rw[KT]
 congr 1
 exact bl (pP (uv:=ah) (λ_=>rfl) r)
def oa(ps:List ak)(part:List Nat)(hlen:ps.length<=100000):SC ac 17 [.ag [ao 14 ps ae],ah part] [] [] (λr S'=>r=bY 0 1 (eb ps part).length/\S'=[e8 (eb ps part)]):=by
 refine Mv 87 Tryz.func17 ?_;refine(jC)<|(zK (rW ps i4) (hfl:=.inr zr)) ?_
 have hgood:HX ps (nv 0 [] ps):=Fc (ps:=ps) rfl ⟨λe he=>by simp at he,f0⟩
 have hMl:(nv 0 [] ps).length<=ps.length:=by have:=C2 ps 0 [];simpa using this
 obtain⟨M,hM⟩:∃M,M=nv 0 [] ps:=⟨_,rfl⟩
 have hN:eb ps part=if dA part M=true then eh (du (ps.length+2) (jM part (jx ps M)) [part]) else []:=by rw[hM];rfl
 rw[<-hM] at hgood hMl
 refine(cM (bm @CO.eq_1 (Eq.symm hM)))<|(zs) ?_;refine aE.r0 ii (by simp only[cY,bP,ao,aF,m7,m6,↓reduceIte,aa,al,ap,af,am,aq,aA,bD,wK (l:=M)];first | done | rfl) ?_;refine(zV) ?_
 cases h1:dA part M
 ·refine(cK) ?_;rw[h1,v6 g9] at hN
  refine zA [(4,bH)] [.gone] zH<|(zE) ?_;exact zP [.tmp 4] (hq:=by (try simp only[eC,bK]);first | done | (rw[hN];exact⟨rfl,rfl⟩))
 rw[h1,ut rfl] at hN
 refine(lD)<|(zC) ?_;refine aN.UT (ks:=M.map λe=>.str e.1) (vs:=M.map λe=>ab e.2) ii rfl rfl ii rfl (by simp only[aF]) ?_
 intro bs c hbs;refine(cM @jU) ?_
 (repeat refine aE.seq ?_)
 refine aE.block (aE.loop (λm st=>∃pos:List Nat,pos.Nodup/\(∀j∈pos,j<M.length)/\M.length-pos.length=m/\st=⟨[(1,ah part),(5,.ptr 1 0),(8,.map 2),(33,.ptr 3 0)],87,[.gone,.cells [ao 14 ps ae,mc AV.str ab M],bG AV.str ah (jx ps (bj M pos)),.oR (M.map λe=>.str e.1) (M.map λe=>ab e.2) bs c pos],[]⟩) M.length (cg (kY @bG.eq_1 @bj.eq_1 @jx.eq_1 @filterMap_nil.{0,0} @map_nil.{0,0})) ⟨[],f0,λj hj=>by simp at hj,rfl,rfl⟩ (by rintro m st ⟨pos,_,_,_,rfl⟩;rfl) ?_);rintro m st ⟨pos,hpn,hpl,rfl,rfl⟩;refine(zC) ?_;refine aN.UR ii rfl rfl ii rfl rfl (λj hj=>by rw[ad];exact hpl j hj) ?_ ?_;rotate_left
 ·intro j hj hjn;rw[ad] at hj;obtain⟨e,he⟩:∃e,M[j]?=some e:=⟨M[j],jp hj⟩;obtain⟨q1,q2,q3⟩:=qW hpn hpl hj hjn;obtain⟨i,x,hi,hx,hxn⟩:=hgood.1 e (ay he);have hil:=bo hx;have hsn:=lq M pos he;have hfresh:=It hgood.2 he hjn
  refine(zR)<|(fw)<|(zC) ?_;refine aN.UL (k:=.str e.1) (v:=ab e.2) ii rfl rfl ii rfl rfl (by rw[bX,he];rfl) (by rw[bX,he];rfl) ?_;refine(zR) ?_
  rw[hi];refine(aB (cJ hil (aL (e:=14) (enc:=ae) gc hx) @ae.eq_1)) ?_
  have hin:vu ps e.2=x.aT:=by unfold vu;rw[hi,f3,hx]
  by_cases hx0:x.aT=[]
  ·refine(aB (wl hx0))<|(zN) ?_
   have hr:jx ps (bj M (pos++[j]))=jx ps (bj M pos):=by
    rw[hsn];unfold jx;rw[ey,fv,ut (by rw[hin,hx0]),filterMap_nil,bv]
   exact⟨M.length-(pos++[j]).length,_,by rw[li];simp only[i7,i5];omega,(cg hr),pos++[j],q1,q2,rfl,rfl⟩
  ·refine(aB (wd hx0))<|(zY)<|(zs) ?_;refine aE.r0 ii (by simp only[cY,bP,ao,aF,m7,m6,↓reduceIte,aa,al,ap,af,am,aq,aA,bD,JH (l:=jx ps (bj M pos))];first | done | rfl) ?_
   have hr:jx ps (bj M (pos++[j]))=cC e.1 x.aT (jx ps (bj M pos)):=by
    rw[pc (by
     cases hh:dA e.1 (jx ps (bj M pos)) with
     | false=>rfl
     | true=>exact un (Ad (lu.1 hh)) hfresh),hsn]
    unfold jx;rw[ey,fv,v6 (by rw[hin];exact hx0),filterMap_nil,hin]
   exact⟨M.length-(pos++[j]).length,_,by rw[li];simp only[i7,i5];omega,(cg hr),pos++[j],q1,q2,rfl,rfl⟩
 intro hall;have hperm:(bj M pos).Perm M:=mT hpn hpl λj hj=>hall j (by rw[ad];exact hj)
 refine(zR)<|(fo)<|(zs) ?_;refine aE.r0 ii (by simp only[cY,bP,ao,aF,m7,m6,↓reduceIte,aa,al,ap,af,am,aq,aA,bD,AE (l:=jx ps (bj M pos))];first | done | rfl) ?_
 obtain⟨r0,hr0⟩:∃r0,r0=jM part (jx ps (bj M pos)):=⟨_,rfl⟩;have hnk:((bj M pos).map (·.1)).Nodup:=(hperm.map (·.1)).nodup_iff.2 hgood.2
 have hrp:r0.Perm (jM part (jx ps M)):=by
  rw[hr0,lg (jy hnk),lg (jy hgood.2)];exact(hperm.filterMap _).filter _
 have hr0n:(r0.map (·.1)).Nodup:=by
  rw[hr0,lg (jy hnk)];exact(jy hnk).sublist (List.filter_sublist.map _)
 have hr0l:r0.length<=ps.length:=by
  rw[hrp.length_eq];exact ce yA (ce (ck _ _) hMl)
 have hN2:eb ps part=eh (du (ps.length+2) r0 [part]):=by
  rw[hN];exact sW (ox _ hrp.symm (λ_=>rfl) Iff.rfl)
 rw[<-hr0];clear hN hperm hall
 refine(zV)<|(aB @jU) ?_;refine zZ [(1,ah part),(8,.map 2),(12,bH),(13,ao 1 [part] (aD ah))] 4 rfl (gE (fk @ao.eq_1 @aD.eq_1 @flatMap_cons.{0,0} @flatMap_nil.{0,0}))<|zA [(1,ah part),(8,.map 0),(12,bH),(13,ao 1 [part] (aD ah))] [bG AV.str ah r0,.gone] (Fg.rn [2,0] g9 rfl (MZ @K0) (M0 @K0)) ?_
 clear hr0 hrp;obtain⟨T,hT0⟩:∃T,T=du (ps.length+2) r0 [part]:=⟨_,rfl⟩;rw[<-hT0] at hN2
 (repeat refine aE.seq ?_)
 refine aE.block (aE.loop (λm st=>∃(r:iU) (ls out:List (List Nat)) (fu:Nat),((r.map (·.1)).Nodup/\r.length+(if ls=[] then 1 else 2)<=fu)/\(out++du fu r ls).Perm T/\(out.length+r.length<=ps.length/\ls.length<=ps.length+1)/\(r.length+if ls=[] then 0 else 1)=m/\st=⟨[(1,ah part),(8,.map 0),(12,bY 1 1 out.length),(13,ao 1 ls (aD ah))],87,[bG AV.str ah r,e8 out],[]⟩) (r0.length+1) (cg (cJ @jW @gw @i5.{0})) ⟨r0,[part],[],ps.length+2,⟨hr0n,by rw[v6 ge];omega⟩,by rw[hT0];exact Perm.refl _,⟨by simpa using hr0l,by simp⟩,rfl,rfl⟩ (by rintro m st ⟨r,ls,out,fu,_,_,_,_,rfl⟩;rfl) ?_);rintro m st ⟨r,ls,out,fu,⟨hrn,hfu⟩,hT,⟨hsz,hlsl⟩,rfl,rfl⟩;clear hr0n hr0l hT0;by_cases hls:ls=[]
 ·subst hls
  refine(aB (show decide (0<(([]:List (List Nat)).length:Int))=false by simp))<|(fo) ?_
  have hgo:du fu r []=[]:=by
   cases fu with
   | zero=>rfl
   | succ k=>rw[du,ut rfl]
  rw[hgo,bv] at hT
  have hres:eb ps part=eh out:=by rw[hN2];exact(sW hT).symm
  by_cases ho:out=[]
  ·subst ho
   refine(eQ (bm @jW @i5.{0}))<|(zK uP)<|(zR)<|(zV)<|zA [(4,bH)] [.gone] zH<|(zE) ?_;exact zP [.tmp 4] (hq:=by (try simp only[eC,bK]);first | done | (rw[hres,show eh []=[] from rfl];exact⟨rfl,rfl⟩))
  ·have hol:¬out.length=0:=λh=>ho (t8 h);rw[dQ hol,fK ho]
   refine(zC) ?_;refine aN.sk [1] ii rfl rfl ii rfl zc (AW out i4 ho) (by simp only[gA,bP,ao,↓reduceIte,aa,al,b7,ap,af,am,jU,bl (aC (enc:=aD ah) gc _),bM (aC (enc:=aD ah) gc _)];first | done | rfl) rfl g9 (by simp only[Du,gA,bP,ao,jU,bl (aC (enc:=aD ah) gc _),bM (aC (enc:=aD ah) gc _)]<;>(repeat' apply bd)<;>first | trivial | rfl | (intro hh;cases hh)) (by simp only[CE,gA,bP,ao,al,am,decide_true,jU,bl (aC (enc:=aD ah) gc _),bM (aC (enc:=aD ah) gc _)];first | done | rfl) (by simp only[CE,gA,bP,ao,al,am,decide_true,jU,bl (aC (enc:=aD ah) gc _),bM (aC (enc:=aD ah) gc _)];first | done | rfl) (by simp only[gA,bP,ao,↓reduceIte,aa,al,b7,ap,af,am,jU,bl (aC (enc:=aD ah) gc _),bM (aC (enc:=aD ah) gc _)];first | done | rfl) (by simp only[gA,bP,ao,↓reduceIte,aa,al,b7,ap,af,am,jU,bl (aC (enc:=aD ah) gc _),bM (aC (enc:=aD ah) gc _),dB,dh,bW,aP,cY];first | done | rfl) (by simp only[gA,bP,ao,↓reduceIte,aa,al,b7,ap,af,am,jU,bl (aC (enc:=aD ah) gc _),bM (aC (enc:=aD ah) gc _),dB,dh,bW,aP,cY];first | done | rfl) ?_;refine(zR)<|(zV) ?_
   have hsl:(eh out).length=out.length:=(qo out).length_eq;have hsne:¬eh out=[]:=λe=>hol (by rw[<-hsl,e];rfl);refine zA [(4,.buf 0 out.length 1 none)] [.cells ((eh out).flatMap (aD ah))] (Fg.rn [1] g9 rfl (by (simp only[sL,gA,bP,ao,bl (aC (enc:=aD ah) gc (eh out))])<;>(repeat' apply bd)<;>first | trivial | exact .inl rfl | exact .inr rfl | exact .inr trivial | exact .inl trivial) (by (simp only[cY,gA,bP,ao,bl (aC (enc:=aD ah) gc (eh out))])<;>(repeat' apply bd)<;>first | rfl | trivial)) ?_;refine(zE) ?_;exact zP [.tmp 4] (hq:=by (try simp only[eC,bK]);first | done | (rw[hres,hsl,dQ hol,fK hsne];exact⟨rfl,rfl⟩))
 rw[v6 hls] at hfu ⊢;have hl0:0<ls.length:=dC λh=>hls (t8 h)
 refine(aB (show decide (0<(ls.length:Int))=true by simp only[wp];omega))<|(fw)<|(jC) ?_;refine aN.Wq (oo:=0) (ks:=r.map λe=>.str e.1) (vs:=r.map λe=>ah e.2) (b:=none) ii rfl rfl ii rfl rfl (by simp only[aF]) ?_
 intro bs c hbs;rw[ad] at hbs;change aN _ _ _ _ ⟨_,_,eJ [zy r bs c,e8 out] _,_⟩ _;refine aN.r0 ii (by simp only[cY,bP,ao,aF,m7,m6,↓reduceIte,aa,al,ap,af,am,aq,aA,bD,fE,vy,cE (show 1≠2 by decide)];first | done | rfl) ?_
 (repeat refine aE.seq ?_)
 refine aE.block (aE.loop (λm st=>∃pos:List Nat,pos.Nodup/\(∀j∈pos,j<r.length)/\r.length-pos.length=m/\st=⟨[(1,ah part),(8,.map 0),(12,bY 1 1 out.length),(13,ao 1 ls (aD ah)),(14,bY 3 1 (je ls (bj r pos)).length),(58,.ptr 2 0)],87,[zy r bs c,e8 out,.iter (.map 0) bs c pos,e8 (je ls (bj r pos))],[]⟩) r.length (Fg.less (by (simp only[cY,bP,fU,↓reduceIte,aa,ao,bj,je,filterMap_nil,g5,map_nil,jW,gw,i5,cE (show 1≠2 by decide)])<;>(repeat' apply bd)<;>first | rfl | trivial) (by (simp only[cY,bP,or_true,true_or,ao,bj,je,filterMap_nil,g5,map_nil,jW,gw,i5,cE (show 1≠2 by decide)])<;>(repeat' apply bd)<;>first | exact .inr rfl | exact .inl rfl | trivial)) ⟨[],f0,λj hj=>by simp at hj,rfl,rfl⟩ (by rintro m st ⟨pos,_,_,_,rfl⟩;rfl) ?_);rintro m st ⟨pos,hpn,hpl,rfl,rfl⟩;refine(zC) ?_;refine aN.Wi (ks:=r.map λe=>.str e.1) (vs:=r.map λe=>ah e.2) ii rfl rfl ii rfl rfl rfl (λj hj=>by rw[ad];exact hpl j hj) ?_ ?_;rotate_left
 ·intro j hj hjn;rw[ad] at hj;obtain⟨e,he⟩:∃e,r[j]?=some e:=⟨r[j],jp hj⟩;obtain⟨q1,q2,q3⟩:=qW hpn hpl hj hjn;have hsn:=lq r pos he;have hms:=IJ ls (bj r pos) e;rw[<-hsn] at hms
  have hml:(je ls (bj r pos)).length<=100000:=by
   unfold je;rw[ad];have h1:=cb (λe:List Nat×List Nat=>ls.contains e.2) (bj r pos);have h2:(bj r pos).length<=pos.length:=ck _ _;omega
  generalize je ls (bj r pos)=mo at hms hml
  refine(zR)<|(fw)<|(zC) ?_;refine aN.Wc (ks:=r.map λe=>.str e.1) (vs:=r.map λe=>ah e.2) (k:=.str e.1) (v:=ah e.2) ii rfl rfl ii rfl rfl rfl (by rw[bX,he];rfl) (by rw[bX,he];rfl) ?_;refine(zR)<|(zC)<|(zK (iL ls e.2 i4)) ?_
  cases hc:ls.contains e.2
  ·rw[hc,v6 g9,bv] at hms
   refine(zR)<|(zN) ?_;exact⟨r.length-(pos++[j]).length,_,by rw[li];simp only[i7,i5];omega,(cg hms),pos++[j],q1,q2,rfl,rfl⟩
  ·rw[hc,ut rfl] at hms
   refine(zR)<|(zY) ?_
   have happ:=kr (enc:=aD ah) (e:=1) gc (λ_=>rfl) 3 mo e.1;have hcl:=aU (enc:=aD ah) (e:=1) gc mo;rw[show aD ah e.1=[ah e.1] from rfl,b9] at happ;by_cases hmo:mo=[]
   ·subst hmo;refine(zs) ?_;refine aE.r0 ii (by simp only[cY,bP,ao,aF,m7,m6,↓reduceIte,aa,al,ap,af,am,aq,aA,bD,jW,i5,gw,fE,vy,cE (show 1≠4 by decide),cE (show 1≠5 by decide)];first | done | rfl) ?_;exact⟨r.length-(pos++[j]).length,_,by rw[li];simp only[i7,i5];omega,((Fg.rn (f':=[(1,ah part),(8,.map 0),(12,bY 1 1 out.length),(13,ao 1 ls (aD ah)),(14,.buf 3 1 1 none),(58,.ptr 2 0)]) (n:=87) (S':=[zy r bs c,e8 out,.iter (.map 0) bs c (pos++[j]),.cells [ah e.1]]) [0,1,2,5] g9 rfl (MZ (cJ @K1 @eN @dK)) (M0 (cJ @K1 @eN @dK)))).trans (cg (EY hms @nil_append.{0} @e8.eq_1 @aD.eq_1 @flatMap_cons.{0,0} @flatMap_nil.{0,0} @bY.eq_1)),pos++[j],q1,q2,rfl,rfl⟩
   ·have hmol:¬mo.length=0:=λh=>hmo (t8 h);rw[dQ hmol,fK hmo]
    have hq:mo++[e.1]≠[]:=by simp
    have hql:(mo++[e.1]).length=mo.length+1:=by rw[li];rfl
    refine(zs) ?_;refine aE.r0 ii (by simp only[cY,bP,ao,aF,m7,m6,↓reduceIte,aa,al,ap,af,am,aq,aA,bD,fE,vy,cE (show 1≠4 by decide),cE (show 1≠3 by decide),bp (enc:=aD ah) gc _ mo,hcl,b9,bb,show mo.length<=1000000 by omega,happ];first | done | rfl) ?_;exact⟨r.length-(pos++[j]).length,_,by rw[li];simp only[i7,i5];omega,(cg (fk hms hql @Td (fK hq))),pos++[j],q1,q2,rfl,rfl⟩
 intro hall;have hperm:(bj r pos).Perm r:=mT hpn hpl λj hj=>hall j (by rw[ad];exact hj);have hmp:(je ls (bj r pos)).Perm (je ls r):=II hperm;obtain⟨mo,hmo⟩:∃mo,mo=je ls (bj r pos):=⟨_,rfl⟩;rw[<-hmo] at hmp ⊢;clear hall
 refine(zR)<|(fo) ?_;refine aE.fg (st':=⟨[(1,ah part),(8,.map 0),(12,bY 1 1 out.length),(13,ao 1 ls (aD ah)),(14,ao 1 mo (aD ah))],87,[bG AV.str ah r,e8 out],[]⟩) ?_ ?_
 ·refine Fg.trans (b:=⟨_,87,[zy r bs c,e8 out],[]⟩) ?_ (Fg.TI (S:=[zy r bs c,e8 out]) (ks:=r.map λe=>.str e.1) (vs:=r.map λe=>ah e.2) (b:=some (bs,c)) 0 rfl);by_cases h0:mo=[]
  ·rw[h0];exact Fg.trans (Fg.wk (f':=[(1,ah part),(8,.map 0),(12,bY 1 1 out.length),(13,ao 1 ls (aD ah)),(14,ao 1 ([]:List (List Nat)) (aD ah))]) ⟨.inl rfl,.inl rfl,.inl rfl,.inl rfl,.inr (.nil _),trivial⟩) zH
  ·have hmol:¬mo.length=0:=λh=>h0 (t8 h);rw[dQ hmol,fK h0];exact Fg.trans (Fg.freeze (f':=[(1,ah part),(8,.map 0),(12,bY 1 1 out.length),(13,ao 1 ls (aD ah)),(14,ao 1 mo (aD ah))]) 3 rfl gt ⟨.inl rfl,.inl rfl,.inl rfl,.inl rfl,.inr (.buf rfl (by rw[dU (enc:=aD ah) (e:=1) gc];exact cA.refl (aC (λ_=>rfl) _)) (by rw[aU (enc:=aD ah) (e:=1) gc];exact bb _)),trivial⟩) zH
 have hmol:mo.length<=r.length:=by
  rw[hmp.length_eq];unfold je;rw[ad];exact cb _ _
 have hdel:=LG hrn hmp
 have hgo:((out++mo)++du (fu-1) (r.filter λe=>!ls.contains e.2) mo).Perm T:=by
  refine Perm.trans ?_ hT;obtain⟨k,rfl⟩:∃k,fu=k+1:=⟨fu-1,by omega⟩;rw[du,v6 hls,c5];refine Perm.append_left out (hmp.append ?_);refine ox k (Perm.refl _) (λx=>?_) ⟨λe=>?_,λe=>?_⟩
  ·rw[go,c6,c6];exact hmp.mem_iff
  ·rw[e] at hmp;exact hmp.nil_eq.symm
  ·have:je ls r=[]:=e;rw[this] at hmp;exact hmp.eq_nil
 have hpl:(je ls r).length+(r.filter λe=>!ls.contains e.2).length=r.length:=by
  unfold je;rw[ad];exact Ab _ r
 rw[<-hmp.length_eq] at hpl;have hrn2:((r.filter λe=>!ls.contains e.2).map (·.1)).Nodup:=hrn.sublist (List.filter_sublist.map _)
 (try change aE _ _ _ _ _)
 refine(zV)<|(zs) ?_;refine zL mo (λk=>True) (λk=>[(1,ah part),(8,.map 0),(12,bY 1 1 out.length),(14,ao 1 mo (aD ah)),(71,ao 1 mo (aD ah)),(72,ab mo.length),(73,ab k)]) (λk=>[bG AV.str ah ((mo.take k).foldl (λr k=>jM k r) r),e8 out]) (cg (bm @take_zero.{0} @List.foldl_nil.{0,0})) zp ?_;intro k hk hall;refine zT mo k ?_ ?_;rintro rfl;rotate_left;intro x hx hlt;rotate_left
 rotate_left
 ·refine(fw)<|(aB (cJ hlt (aL (e:=1) (enc:=aD ah) gc hx) @aD.eq_1))<|(zs) ?_;refine aE.r0 ii (by simp only[cY,bP,ao,aF,m7,m6,↓reduceIte,aa,al,ap,af,am,aq,aA,bD,AE (l:=(mo.take k).foldl (λr k=>jM k r) r)];first | done | rfl) ?_
  have hst:(mo.take (k+1)).foldl (λr k=>jM k r) r=jM x ((mo.take k).foldl (λr k=>jM k r) r):=by rw[cq hx,List.foldl_append];rfl
  refine(aB (zi hlt (show mo.length<=1000000 by omega))) ?_;refine zX hlt (cg hst) trivial
 refine(fo) ?_;rw[bF,hdel];generalize hr':(r.filter λe=>!ls.contains e.2)=r' at hgo hpl hrn2
 have hme:r'.length+(if mo=[] then 0 else 1)<r.length+1/\r'.length+(if mo=[] then 1 else 2)<=fu-1:=by
  by_cases h0:mo=[]
  ·rw[ut h0,ut h0];omega
  ·have:0<mo.length:=dC λh=>h0 (t8 h);rw[v6 h0,v6 h0];omega
 have hsz2:(out++mo).length+r'.length<=ps.length/\mo.length<=ps.length+1:=by rw[li];omega
 have hmk:=bp (enc:=aD ah) gc;have hmo1:(mo.flatMap (aD ah)).all eP=true:=rF (λ_=>rfl) mo;by_cases h0:mo=[]
 ·subst h0;rw[bv] at hgo hsz2;by_cases h1:out=[]
  ·subst h1
   refine(aB (bm @jW @i5.{0}))<|(zV) ?_;exact⟨_,_,hme.1,(cg (cJ @jW @gw @i5.{0})),r',[],[],fu-1,⟨hrn2,hme.2⟩,hgo,hsz2,rfl,rfl⟩
  ·have h1l:¬out.length=0:=λh=>h1 (t8 h);rw[dQ h1l,fK h1]
   refine(aB (bm @i5.{0} (show out.length<=1000000 by omega)))<|(zV) ?_;exact⟨_,_,hme.1,(Fg.less (by (simp only[cY,bP,fU,↓reduceIte,aa,ao,dQ h1l,fK h1,i5])<;>(repeat' apply bd)<;>first | rfl | trivial) (by (simp only[cY,bP,or_true,true_or,ao,dQ h1l,fK h1,i5])<;>(repeat' apply bd)<;>first | exact .inr rfl | exact .inl rfl | trivial)),r',[],out,fu-1,⟨hrn2,hme.2⟩,hgo,hsz2,rfl,rfl⟩
 have hmol2:¬mo.length=0:=λh=>h0 (t8 h);by_cases h1:out=[]
 ·subst h1;rw[nil_append] at hgo hsz2
  refine(aB (T1 @jW @gw @i5.{0} hmol2 (show mo.length<=1000000 by omega) hmo1 hmk @jU))<|(zV) ?_;exact⟨_,_,hme.1,((Fg.rn (f':=[(1,ah part),(8,.map 0),(12,.buf 1 mo.length 1 none),(13,ao 1 mo (aD ah))]) (n:=87) (S':=[bG AV.str ah r',.cells (mo.flatMap (aD ah))]) [0,2] g9 rfl (by (simp only[sL,gA,bP,ao,K0,bl (aC (enc:=aD ah) gc mo)])<;>(repeat' apply bd)<;>first | trivial | exact .inl rfl | exact .inr rfl | exact .inr trivial | exact .inl trivial) (by (simp only[cY,gA,bP,ao,K0,bl (aC (enc:=aD ah) gc mo)])<;>(repeat' apply bd)<;>first | rfl | trivial))).trans (Fg.less (by (simp only[cY,bP,fU,↓reduceIte,aa,ao,dQ hmol2,fK h0])<;>(repeat' apply bd)<;>first | rfl | trivial) (by (simp only[cY,bP,or_true,true_or,ao,dQ hmol2,fK h0])<;>(repeat' apply bd)<;>first | exact .inr rfl | exact .inl rfl | trivial)),r',mo,mo,fu-1,⟨hrn2,hme.2⟩,hgo,hsz2,rfl,rfl⟩
 ·have h1l:¬out.length=0:=λh=>h1 (t8 h);have hol:=aU (enc:=aD ah) (e:=1) gc out;rw[b9] at hol;have hot:(out.flatMap (aD ah)).take out.length=out.flatMap (aD ah):=bt (by rw[hol];exact bb _)
  have hq:¬(out++mo)=[]:=by simp[h1]
  have hql:(out++mo).length=out.length+mo.length:=li;rw[dQ h1l,fK h1]
  have hap:(out.flatMap (aD ah)++mo.flatMap (aD ah)).map (aP 1)=(out++mo).flatMap (aD ah):=by rw[d6,hmk,hmk,b8]
  refine(aB (bm (Lx hmol2 (show mo.length<=1000000 by omega) (show out.length<=1000000 by omega) hmo1 hol @b9 @bb hot hmk) (bm @jU hap)))<|(zV) ?_;exact⟨_,_,hme.1,(Fg.less (by (simp only[cY,bP,fU,↓reduceIte,aa,ao,dQ (show ¬(out.length+mo.length)=0 by omega),fK hq,hql])<;>(repeat' apply bd)<;>first | rfl | trivial) (by (simp only[cY,bP,or_true,true_or,ao,dQ (show ¬(out.length+mo.length)=0 by omega),fK hq,hql])<;>(repeat' apply bd)<;>first | exact .inr rfl | exact .inl rfl | trivial)),r',mo,out++mo,fu-1,⟨hrn2,hme.2⟩,hgo,hsz2,rfl,rfl⟩
def Cc(l1 l2 l3 l4 l5 l6:Int):List SV:=[ab l1,ab l2,ab l3,ab l4,ab l5,ab l6]
def SQ(a b x y:List SV)(off:Nat)(h:off=a.length):((a++(x++(y++b))).drop (off+x.length)).take y.length=y:=by
 subst h;rw[cn,show a.length+x.length-a.length=x.length by omega,bi i4,nil_append,cn,dd,bi (bb _),nil_append,drop_zero,b0 (bb _),bt (bb _)]
def Tm(a b x y z:List SV)(off:Nat)(h:off=a.length)(hz:z.length=y.length):(a++(x++(y++b))).take (off+x.length)++(z++(a++(x++(y++b))).drop (off+x.length+z.length))=a++(x++(z++b)):=by
 subst h
 rw[gd,show a.length+x.length-a.length=x.length by omega,bt i4,b0 (bb _),bt (bb _),
  cn,bi i4,nil_append,show a.length+x.length+z.length-a.length=x.length+z.length by omega,cn,bi i4,nil_append,show x.length+z.length-x.length=y.length by omega,cn,bi (bb _),nil_append,dd,drop_zero]
 simp
def OB(l1 l2 l3 l4 l5 l6:Int)(u:iV)(d1 d2:Int):List SV:=Cc (eD gH l1 l2 u.u1 u.u2).1 (eD gH l1 l2 u.u1 u.u2).2 (eD gH l3 l4 u.u3 u.u4).1 (eD gH l3 l4 u.u3 u.u4).2 (eD gH l5 l6 d1 d2).1 (eD gH l5 l6 d1 d2).2
def Et(a b:List SV)(l1 l2 l3 l4 l5 l6:Int)(u:iV)(d1 d2:Int)(hg:cj (a++(Cc l1 l2 l3 l4 l5 l6++b))=true):SC ac 52 [.ptr 0 a.length,.ag (ek u),ly d1 d2] [.cells (a++(Cc l1 l2 l3 l4 l5 l6++b))] []
 (λr S'=>r=.cx []/\S'=[.cells (a++(OB l1 l2 l3 l4 l5 l6 u d1 d2++b))]):=by
 refine Pu 35 Tryz.func52 ?_;have hp1:=qj l1 l2 u.u1 u.u2;have hp2:=qj l3 l4 u.u3 u.u4;have hp3:=qj l5 l6 d1 d2;unfold OB;generalize eD gH l1 l2 u.u1 u.u2=q1 at hp1 ⊢;generalize eD gH l3 l4 u.u3 u.u4=q2 at hp2 ⊢;generalize eD gH l5 l6 d1 d2=q3 at hp3 ⊢;obtain⟨cs,hcs⟩:∃cs,cs=a++(Cc l1 l2 l3 l4 l5 l6++b):=⟨_,rfl⟩;rw[<-hcs] at hg ⊢;have hk:∀o:Nat,cs.map (aP o)=cs:=λo=>bV hg
 have hl:cs.length=a.length+(6+b.length):=by rw[hcs,li,li];rfl
 have g1:(cs.drop a.length).take 2=[ab l1,ab l2]:=by rw[hcs];exact SQ a (ab l3::ab l4::ab l5::ab l6::b) [] [ab l1,ab l2] a.length rfl
 have g2:(cs.drop (a.length+2)).take 2=[ab l3,ab l4]:=by rw[hcs];exact SQ a (ab l5::ab l6::b) [ab l1,ab l2] [ab l3,ab l4] a.length rfl
 have g3:(cs.drop (a.length+4)).take 2=[ab l5,ab l6]:=by rw[hcs];exact SQ a b [ab l1,ab l2,ab l3,ab l4] [ab l5,ab l6] a.length rfl
 obtain⟨c1,hc1⟩:∃c1,c1=cs.take a.length++(ab q1.1::ab q1.2::cs.drop (a.length+2)):=⟨_,rfl⟩
 have e1:c1=a++([ab q1.1,ab q1.2]++([ab l3,ab l4,ab l5,ab l6]++b)):=by rw[hc1,hcs];exact Tm a (ab l3::ab l4::ab l5::ab l6::b) [] [ab l1,ab l2] [ab q1.1,ab q1.2] a.length rfl rfl
 obtain⟨c2,hc2⟩:∃c2,c2=c1.take (a.length+2)++(ab q2.1::ab q2.2::c1.drop (a.length+2+2)):=⟨_,rfl⟩
 have e2:c2=a++([ab q1.1,ab q1.2]++([ab q2.1,ab q2.2]++([ab l5,ab l6]++b))):=by rw[hc2,e1];exact Tm a (ab l5::ab l6::b) [ab q1.1,ab q1.2] [ab l3,ab l4] [ab q2.1,ab q2.2] a.length rfl rfl
 obtain⟨c3,hc3⟩:∃c3,c3=c2.take (a.length+4)++(ab q3.1::ab q3.2::c2.drop (a.length+4+2)):=⟨_,rfl⟩
 have e3:c3=a++(Cc q1.1 q1.2 q2.1 q2.2 q3.1 q3.2++b):=by rw[hc3,e2];exact Tm a b [ab q1.1,ab q1.2,ab q2.1,ab q2.2] [ab l5,ab l6] [ab q3.1,ab q3.2] a.length rfl rfl
 have hl1:c1.length=a.length+(6+b.length):=by rw[e1];simp;omega
 have hl2:c2.length=a.length+(6+b.length):=by rw[e2];simp;omega
 rw[<-e3];refine(aB (cJ @ek.eq_1 @ly.eq_1 hk)) ?_;refine aE.post ?_;refine(zs) ?_;refine nw [0,0,0,0,8,24,56,0,128,504,0,1024,3072,7168,0,16384,65528,0,131072,393216,917504,0,4194296,8388601,16777209,33554425,67108859,134217723,268435451,536870911,1073741823,2147483647] ?_;refine(uW (fk hl (show a.length+2<=a.length+(6+b.length) by omega) g1 @bw)) ?_;refine SD.k ii rfl rfl ii rfl rfl (yc @ly.eq_1) (hp1) (zw) rfl ?_;refine(uW (kY hl @ht (show a.length+4<=a.length+(6+b.length) by omega) g2 @bw)) ?_;refine SD.k ii rfl rfl ii rfl rfl (yc @ly.eq_1) (hp2) (zw) rfl ?_;refine(uW (kY hl @ht (show a.length+6<=a.length+(6+b.length) by omega) g3 @bw)) ?_;refine SD.k ii rfl rfl ii rfl rfl (yc @ly.eq_1) (hp3) (zw) rfl ?_;refine(uW @bw) ?_;refine SD.e ii rfl ii rfl rfl ii (pz (vc @oG.eq_1 @ly.eq_1 hl @bw (show a.length+2<=a.length+(6+b.length) by omega) (Eq.symm hc1))) ?_;refine(uW @bw) ?_;refine SD.e ii rfl ii rfl rfl ii (pz (kY @oG.eq_1 @ly.eq_1 hl1 (show a.length+2+2<=a.length+(6+b.length) by omega) (Eq.symm hc2))) ?_;refine(uW @bw) ?_;refine SD.e ii rfl ii rfl rfl ii (pz (kY @oG.eq_1 @ly.eq_1 hl2 (show a.length+4+2<=a.length+(6+b.length) by omega) (Eq.symm hc3))) ?_;refine(zM) ?_;refine⟨⟨[(1000000,.ptr 0 0)],35,[.cells c3],[]⟩,(cg @lL.eq_1),?_⟩;exact zP []
abbrev sC:Nat:=1000000000000000
def gP{α:Type}{p:α->Bool}{l:List α}{k:Nat}{x:α}(hx:l[k]?=some x)(h:(l.take k).all p=true)(hp:p x=true):(l.take (k+1)).all p=true:=by
 rw[cq hx,e4,h];show(true&&(p x&&true))=true;rw[hp];rfl
inductive kS:bu->Prop
 | mk {op n:Int} {kids:List bu}:kids.length<=sC->(∀k∈kids,kS k)->kS (.mk op n kids)
def uM:∀(d:Nat) (f:bu),SizeOf.sizeOf f<d->kS f->∀most:Int,PC Tryz.prog 154 [.ag (aG f),ab most] (·=ab (fJ f most))
 | 0,f,hd,_,_=>un hd (Nat.not_lt_zero _)
 | d+1,.mk op n kids,hd,hf,most=>by
  cases hf with
  | mk hlen hks=>
  have hkd:∀k∈kids,SizeOf.sizeOf k<d:=λk hk=>by
   have h1:=List.sizeOf_lt_of_mem hk
   have h2:SizeOf.sizeOf (bu.mk op n kids)=1+SizeOf.sizeOf op+SizeOf.sizeOf n+SizeOf.sizeOf kids:=by simp
   omega
  rw[dj,fJ]
  refine pB 31 Tryz.func154 ?_;refine(zV) ?_;refine zZ [(1,ab most),(2,.ip [ab op,ab n,ao 3 kids aG])] 0 rfl (gE @ao.eq_1)<|zA [(1,ab most),(2,.ip [ab op,ab n,ao 3 kids aG])] [] zH<|(nD)<|(zs) ?_;refine BF kids (λk (acc:Int)=>ia kids most 1=ia (kids.drop k) most acc) (λk acc=>[(1,ab most),(2,.ip [ab op,ab n,ao 3 kids aG]),(5,ab acc),(6,ab k)]) (λk acc=>[]) (1) zH ii ?_;intro k acc hk hall
  by_cases hlt:k<kids.length;rotate_left
  ·refine(aB (show decide ((k:Int)<(kids.length:Int))=false by simp only[wn];omega))<|(fo) ?_
   rw[List.drop_of_length_le i4,ia] at hall
   exact(zV)<|zo [.tmp 4] (hq:=by rw[hall])
  have hd:=show decide ((k:Int)<(kids.length:Int))=true by simp only[wp];omega
  obtain⟨x,hx⟩:∃x,kids[k]?=some x:=⟨kids[k],jp hlt⟩;rw[eZ hx,ia] at hall;have hxm:=List.mem_of_getElem? hx;have ih:=uM d x (hkd x hxm) (hks x hxm);have hxl:((kids.flatMap aG).drop (k*3)).take 3=aG x:=aL (e:=3) (enc:=aG) e7 hx;obtain⟨op',n',kids'⟩:=x;simp only[dj] at hxl ih;cases h1:decide (acc<=most)
  ·rw[ut (by have:=wt h1;omega)] at hall
   exact(aB (bm hd h1))<|(fo)<|(zV)<|zo [.tmp 4] (hq:=by rw[hall])
  rw[v6 (by have:=ww h1;omega)] at hall
  refine(aB (bm hd h1))<|(fw)<|(eQ (cJ hlt hxl @oI))<|(zK (ih (uB most acc)))<|(cM @ti)<|(aB (zi hlt hlen)) ?_;refine pw hlt (yh acc (fJ (.mk op' n' kids') (uB most acc))) zH hall
def Ho(f:bu)(hf:kS f)(most:Int):PC ac 154 [.ag (aG f),ab most] (·=ab (fJ f most)):=uM _ f (ci _) hf most
def FC(f:bu):Bool:=decide (fJ f 80<=80)
def Ji(f:bu)(hf:kS f):PC ac 73 [.ag (aG f)] (·=an (Proofs.FC f)):=by
 refine pB 6 Tryz.func73 ?_;have hN:=Ho f hf 80;unfold Proofs.FC;generalize fJ f 80=q at hN ⊢;obtain⟨op,n,kids⟩:=f;rw[dj] at hN ⊢
 exact(jC)<|(zK hN)<|(zR)<|zo [.tmp 2]
def JY{a b:Int}(h : -9223372036854775808<=a+b/\a+b<=9223372036854775807):yh a b=a+b:=by
 have h1:(sj (-9223372036854775808) (a+b)&&sj (a+b) 9223372036854775807)=true:=by
  rw[gC,gC];simp[h.1,h.2]
 unfold yh;simp only[dO,L4,LU,h1,aq]
def K9{a b:Int}(h : -9223372036854775808<=a-b/\a-b<=9223372036854775807):uB a b=a-b:=by
 have h1:(sj (-9223372036854775808) (a-b)&&sj (a-b) 9223372036854775807)=true:=by
  rw[gC,gC];simp[h.1,h.2]
 unfold uB;simp only[dO,L4,LU,h1,aq]
def Cm:∀(d:Nat) (f:bu),SizeOf.sizeOf f<d->∀most:Int,-1000<=most->most<=1000->1<=fJ f most/\(fJ f most<=most+1\/fJ f most=1)/\(fJ f most<=most->gM f)
 | 0,f,hd,_,_,_=>un hd (Nat.not_lt_zero _)
 | d+1,.mk op n kids,hd,most,h0,h1=>by
  have hkd:∀k∈kids,SizeOf.sizeOf k<d:=λk hk=>by
   have h1:=List.sizeOf_lt_of_mem hk
   have h2:SizeOf.sizeOf (bu.mk op n kids)=1+SizeOf.sizeOf op+SizeOf.sizeOf n+SizeOf.sizeOf kids:=by simp
   omega
  have key:∀(ks:List bu) (acc:Int),(∀k∈ks,k∈kids)->1<=acc->(acc<=most+1\/acc=1)->1<=ia ks most acc/\(ia ks most acc<=most+1\/ia ks most acc=1)/\(ia ks most acc<=most->acc+ks.length<=ia ks most acc/\∀k∈ks,gM k):=by
   intro ks
   induction ks with
   | nil=>intro acc _ h2 h3;rw[ia];exact⟨h2,h3,λ_=>⟨by simp,λk hk=>by cases hk⟩⟩
   | cons k ks ih=>
    intro acc hm h2 h3;rw[ia];split
    ·rename_i hlt;exact⟨h2,h3,λh=>by omega⟩
    ·rename_i hlt;rw[K9 i4];obtain⟨b1,b2,b3⟩:=Cm d k (hkd k (hm k List.mem_cons_self)) (most-acc) i4 i4;rw[JY i4];obtain⟨c1,c2,c3⟩:=ih (acc+fJ k (most-acc)) (λx hx=>hm x (List.mem_cons_of_mem _ hx)) i4 i4;refine⟨c1,c2,λh=>?_⟩;obtain⟨d1,d2⟩:=c3 h;refine⟨by rw[i7];omega,λx hx=>?_⟩
     rcases t7 hx with rfl | hx
     ·exact b3 i4
     ·exact d2 x hx
  rw[fJ];obtain⟨c1,c2,c3⟩:=key kids 1 (λ_ h=>h) (Int.le_refl _) (.inr rfl);refine⟨c1,c2,λh=>?_⟩;obtain⟨d1,d2⟩:=c3 h;exact .mk i4 d2
def N7{f:bu}(h:FC f=true):gM f:=(Cm _ f (ci _) 80 g9 g9).2.2 (ww h)
def qg(s:kj):Bool:=!(decide (100<(s.name.length:Int)))&&(!(decide (15<(s.kinds.length:Int)))&&s.kinds.all λn=>!(decide (100<(n.length:Int))))
def oz(k:aM):Bool:=!(decide (100<(k.name.length:Int)))&&(!(decide (15<(k.bN.length:Int)))&&k.bN.all qg)
def tz(c:List aM):Bool:=!(decide (65<(c.length:Int)))&&c.all oz
def iH{α:Type}{p:α->Bool}{l:List α}{x:α}(hx:x∈l)(hp:p x=false):l.all p=false:=Bool.eq_false_iff.2 λh=>by
 have:=all_eq_true.1 h x hx;rw[hp] at this;cases this
def Jj(c:List aM):PC ac 72 [.ag [ao 3 c ar]] (·=an (Proofs.tz c)):=by
 refine pB 80 Tryz.func72 ?_;refine(zV) ?_;refine zZ [(1,.ip [ao 3 c ar])] 0 rfl (gE @ao.eq_1)<|zA [(1,.ip [ao 3 c ar])] [] zH ?_
 cases g1:decide (65<(c.length:Int));rotate_left
 ·exact(aB g1)<|(cK)<|zo [.tmp 2] (hq:=by rw[Proofs.tz,g1];rfl)
 have hlen:c.length<=1000000:=by have:=wt g1;omega
 have hN:Proofs.tz c=c.all oz:=by rw[Proofs.tz,g1];rfl
 refine(aB g1)<|(lD)<|(zs) ?_;refine zL c (λk=>(c.take k).all oz=true) (λk=>[(1,.ip [ao 3 c ar]),(3,ab k)]) (λk=>[]) zH zp ?_;intro k hk hall
 by_cases hlt:k<c.length;rotate_left
 ·obtain rfl:k=c.length:=by omega
  rw[bF] at hall
  exact(aB (show decide ((c.length:Int)<(c.length:Int))=false by simp))<|(fo)<|(zV)<|zo [.tmp 2] (hq:=by rw[hN,hall])
 have hd:=show decide ((k:Int)<(c.length:Int))=true by simp only[wp];omega
 obtain⟨x,hx⟩:∃x,c[k]?=some x:=⟨c[k],jp hlt⟩
 have hbad:oz x=false->Proofs.tz c=false:=λh=>by rw[hN];exact iH (ay hx) h
 refine(aB hd)<|(fw) ?_
 (repeat refine aE.seq ?_)
 refine(aB (cJ hlt (aL (e:=3) (enc:=ar) gc hx) @ar.eq_1)) ?_;refine zZ [(1,.ip [ao 3 c ar]),(3,ab k),(4,.ip [ah x.name,an x.vehicle,ao 3 x.bN bJ])] 0 rfl (gE @ao.eq_1)<|zA [(1,.ip [ao 3 c ar]),(3,ab k),(4,.ip [ah x.name,an x.vehicle,ao 3 x.bN bJ])] [] zH ?_
 cases j1:decide (100<(x.name.length:Int));rotate_left
 ·exact(aB j1)<|(cK)<|zo [.tmp 2] (hq:=by rw[hbad (by rw[oz,j1];rfl)])
 cases j2:decide (15<(x.bN.length:Int));rotate_left
 ·exact(aB (bm j1 j2))<|(cK)<|zo [.tmp 2] (hq:=by rw[hbad (by rw[oz,j1,j2];rfl)])
 have hkx:oz x=x.bN.all qg:=by rw[oz,j1,j2];rfl
 have hlen2:x.bN.length<=1000000:=by have:=wt j2;omega
 refine(aB (bm j1 j2))<|(lD)<|(zs) ?_;refine zL x.bN (λk2=>(x.bN.take k2).all qg=true) (λk2=>[(1,.ip [ao 3 c ar]),(3,ab k),(4,.ip [ah x.name,an x.vehicle,ao 3 x.bN bJ]),(5,ab k2)]) (λk2=>[]) zH zp ?_;intro k2 hk2 hall2
 by_cases hlt2:k2<x.bN.length;rotate_left
 ·obtain rfl:k2=x.bN.length:=by omega
  rw[bF] at hall2
  refine(aB (show decide ((x.bN.length:Int)<(x.bN.length:Int))=false by simp))<|(fo)<|(aB (zi hlt hlen)) ?_;refine zX hlt zH (gP hx hall (by rw[hkx,hall2]))
 have hd2:=show decide ((k2:Int)<(x.bN.length:Int))=true by simp only[wp];omega
 obtain⟨y,hx2⟩:∃y,x.bN[k2]?=some y:=⟨x.bN[k2],jp hlt2⟩
 have hbad2:qg y=false->oz x=false:=λh=>by rw[hkx];exact iH (ay hx2) h
 refine(aB hd2)<|(fw) ?_
 (repeat refine aE.seq ?_)
 cases j3:decide (100<(y.name.length:Int));rotate_left
 ·exact(aB (fk hlt2 (aL (e:=3) (enc:=bJ) gc hx2) @bJ.eq_1 j3))<|(cK)<|zo [.tmp 2] (hq:=by rw[hbad (hbad2 (by rw[qg,j3];rfl))])
 cases j4:decide (15<(y.kinds.length:Int));rotate_left
 ·exact(aB (kY hlt2 (aL (e:=3) (enc:=bJ) gc hx2) @bJ.eq_1 j3 j4))<|(cK)<|zo [.tmp 2] (hq:=by rw[hbad (hbad2 (by rw[qg,j3,j4];rfl))])
 have hky:qg y=y.kinds.all λn=>!(decide (100<(n.length:Int))):=by rw[qg,j3,j4];rfl
 have hlen3:y.kinds.length<=1000000:=by have:=wt j4;omega
 refine(aB (kY hlt2 (aL (e:=3) (enc:=bJ) gc hx2) @bJ.eq_1 j3 j4))<|(lD)<|(zs) ?_;refine zL y.kinds (λk3=>((y.kinds.take k3).all λn=>!(decide (100<(n.length:Int))))=true) (λk3=>[(1,.ip [ao 3 c ar]),(3,ab k),(4,.ip [ah x.name,an x.vehicle,ao 3 x.bN bJ]),(5,ab k2),(6,ab k3)]) (λk3=>[]) zH zp ?_;intro k3 hk3 hall3
 by_cases hlt3:k3<y.kinds.length;rotate_left
 ·obtain rfl:k3=y.kinds.length:=by omega
  rw[bF] at hall3
  refine(aB (fk hlt2 (aL (e:=3) (enc:=bJ) gc hx2) @bJ.eq_1 (show decide ((y.kinds.length:Int)<(y.kinds.length:Int))=false by simp)))<|(fo)<|(aB (zi hlt2 hlen2)) ?_;refine zX hlt2 zH (gP hx2 hall2 (by rw[hky,hall3]))
 have hd3:=show decide ((k3:Int)<(y.kinds.length:Int))=true by simp only[wp];omega
 obtain⟨z,hx3⟩:∃z,y.kinds[k3]?=some z:=⟨y.kinds[k3],jp hlt3⟩
 refine(aB (fk hlt2 (aL (e:=3) (enc:=bJ) gc hx2) @bJ.eq_1 hd3))<|(fw) ?_
 cases j5:decide (100<(z.length:Int));rotate_left
 ·exact(aB (EY hlt2 (aL (e:=3) (enc:=bJ) gc hx2) @bJ.eq_1 hlt3 (aL (e:=1) (enc:=aD ah) gc hx3) @aD.eq_1 j5))<|(cK)<|zo [.tmp 2] (hq:=by rw[hbad (hbad2 (by rw[hky];exact iH (ay hx3) (by rw[j5];rfl)))])
 refine(aB (EY hlt2 (aL (e:=3) (enc:=bJ) gc hx2) @bJ.eq_1 hlt3 (aL (e:=1) (enc:=aD ah) gc hx3) @aD.eq_1 j5))<|(zN)<|(aB (zi hlt3 hlen3)) ?_;refine zX hlt3 zH (gP hx3 hall3 (by rw[j5];rfl))
structure U0 (e:br):Prop where
 part:∀b∈e.part,b<256
 kind:∀b∈e.kind,b<256
 aT:∀b∈e.aT,b<256
 slot:∀b∈e.slot,b<256
 key:∀b∈e.key,b<256
 value:∀b∈e.value,b<256
def N8{c:List aM}(h:tz c=true)(hb:∀k∈c,(∀b∈k.name,b<256)/\∀s∈k.bN,∀b∈s.name,b<256):mI c:=by
 unfold tz at h;simp only[aj,bc,wn,all_eq_true] at h
 have hk:∀k∈c,k.name.length<=100/\k.bN.length<=15/\∀s∈k.bN,s.name.length<=100/\s.kinds.length<=15:=λk hk=>by
  have:=h.2 k hk;unfold oz at this;simp only[aj,bc,wn,all_eq_true] at this;refine⟨by omega,by omega,λs hs=>?_⟩;have:=this.2.2 s hs;unfold qg at this;simp only[aj,bc,wn] at this;omega
 exact⟨by omega,λk h1=>⟨⟨by have:=hk k h1;omega,(hb k h1).1⟩,by have:=hk k h1;omega⟩,λk h1 s hs=>⟨⟨by have:=(hk k h1).2.2 s hs;omega,(hb k h1).2 s hs⟩,by have:=(hk k h1).2.2 s hs;omega⟩⟩
end Go.Proofs
namespace Go.Ev
open Go.RowKit Go.ChangeShapes Go.WideShapes Go.Deep
noncomputable section
mutual
def Fz:DV->SV
 | .fl a=>.a a
 | .sl _ n e cs=>.sl n e (eO cs)
 | .ag cs=>.ag (eO cs)
def eO:List DV->List SV
 | []=>[]
 | d::ds=>Fz d::eO ds
end
def FA:∀a b:List DV,eO (a++b)=eO a++eO b
 | [],b=>rfl
 | d::a,b=>by rw[dl,eO,eO,FA a b,dl]
def I0(h:H):ko:=λid=>if id<h.next then h.aW.get id else none
def Rv(h:H):Nd (I0 h) h:=by
 intro id ob hi;unfold I0 at hi;split at hi
 ·rename_i hl;exact⟨hl,hi⟩
 ·cases hi
def Pg{h:H}{id:Nat}{row:List AV}(hl:id<h.next)(hr:sf h.aW id=some row):vN (I0 h) id=some row:=by
 unfold vN I0;rw[ut hl];unfold sf at hr
 cases hg:h.aW.get id with
 | none=>rw[hg] at hr;cases hr
 | some o=>
  rw[hg] at hr
  cases o<;>first | exact hr | cases hr
mutual
def Dp.gs{s:Bool}{h:H}:∀{d:DV} {a:AV},Dp s h d a->GS (I0 h) (Fz d) a
 | .fl a0,a,hd=>by
  rw[TU] at hd;rw[Fz,GS];exact hd.1
 | .sl nl n e cs,a,hd=>by
  rw[JX] at hd;rw[Fz,GS]
  rcases hd with⟨h1,h2,⟨o,e',c,h3,h4,h5⟩,_⟩ | ⟨_,id,off,cap,row,aS,e1,h1,h2,h3,h4,h5⟩
  ·subst h2;exact .inl ⟨h1,by rw[eO],o,e',c,by rw[h3],h4,h5⟩
  ·exact .inr ⟨id,off,cap,row,e1,Pg h1 h2,h3,by rw[<-h4];exact EX.gs h5⟩
 | .ag cs,a,hd=>by
  rw[TT] at hd;obtain⟨aS,e1,h1⟩:=hd;rw[Fz,GS];exact⟨aS,e1,EX.gs h1⟩
def EX.gs{s:Bool}{h:H}:∀{ds:List DV} {aS:List AV},EX s h ds aS->j9 (I0 h) (eO ds) aS
 | [],aS,hd=>by rw[P4] at hd;rw[eO,j9];exact hd
 | d::ds,aS,hd=>by
  rw[M7] at hd;obtain⟨a,r,e1,h1,h2⟩:=hd;rw[eO,j9];exact⟨a,r,e1,Dp.gs h1,EX.gs h2⟩
end
def S9{P:Program}(hng:ta P){f:FuncId}{fn:Func}(hf:P.funcs[f]?=some fn)(hb:fn.body.isSome=true){w:World}{ds:List DV}{args':Array Value}(hw:nF w ds args'.toList)
 (hc:PC P f (eO ds) (·=.a (.bool true))):Calls P f args' w λe w'=>e=.returned (.bool true)/\Below w.heap.size w w':=by
 obtain⟨σ,k1,k2⟩:=hw.lay;have hd:=nF.dp (rows:=(eU ds 0).2) hw 0 (λi r hr=>by rw[hG];exact hr);have hfine:=hc (I0 _) _ _ (Rv _) hd.gs σ w args' k1 k2;rw[eg hng hf hb] at hfine;refine Calls.mono hfine λe w' ⟨x,he,a,h',⟨r,ρ',hr,_,_,hg⟩,σ',hV,hr',hE⟩=>?_;subst hr;rw[GS] at hg;subst hg;cases hV;exact⟨he,Il hE⟩
end
end Go.Ev
namespace Go.Proofs
open Go.Ev
set_option maxRecDepth 100000
abbrev i6:Ty:=.int .i64
def LL:List Ty:=[i6,i6,.str,.str,.str,.str,.str,.str,.st [.st [i6,i6],.st [i6,i6],.st [i6,i6]]]
def I6:List Ty:=[.str,.sl .str,i6]
def vz:List Ty:=[.str,.bool,.sl (.st I6)]
def oN:Nat->Ty
 | 0=>.no 3
 | 1=>.st [.no 1,.no 1,.no 1]
 | j+2=>.st [i6,i6,.sl (oN j)]
def sK:∀j,(oN j).size=3
 | 0=>rfl
 | 1=>rfl
 | j+2=>rfl
def ni{α:Type}(enc:α->List SV)(ok:α->Prop):∀{rows:List (List DV)},(∀r∈rows,∃x,eO r=enc x/\ok x)->∃xs:List α,xs.length=rows.length/\eO rows.flatten=xs.flatMap enc/\∀x∈xs,ok x
 | [],_=>⟨[],rfl,rfl,λx hx=>by cases hx⟩
 | r::rows,h=>by
  obtain⟨x,h1,h2⟩:=h r be;obtain⟨xs,h3,h4,h5⟩:=ni enc ok (rows:=rows) λq hq=>h q (ba _ hq);refine⟨x::xs,by rw[i7,i7,h3],by rw[List.flatten_cons,FA,h1,h4,flatMap_cons],λy hy=>?_⟩
  rcases t7 hy with rfl | hy
  ·exact h2
  ·exact h5 y hy
def nJ{α:Type}{enc:α->List SV}{nl:Bool}{e:Nat}{rows:List (List DV)}{xs:List α}(h1:xs.length=rows.length)(h2:eO rows.flatten=xs.flatMap enc):Fz (.sl nl rows.length e rows.flatten)=ao e xs enc:=by
 rw[Fz,h2,ao,h1]
section
variable {B:Nat} {ds:List DV}
def T6(hk:ec B LL ds):∃e:br,eO ds=au e/\U0 e:=by
 unfold LL at hk;obtain⟨a1,r,rfl,_,hk⟩:=dI hk;obtain⟨a2,r,rfl,_,hk⟩:=dI hk;obtain⟨s1,r,rfl,b1,_,hk⟩:=cV hk;obtain⟨s2,r,rfl,b2,_,hk⟩:=cV hk;obtain⟨s3,r,rfl,b3,_,hk⟩:=cV hk;obtain⟨s4,r,rfl,b4,_,hk⟩:=cV hk;obtain⟨s5,r,rfl,b5,_,hk⟩:=cV hk;obtain⟨s6,r,rfl,b6,_,hk⟩:=cV hk;have hk:ec B [.st [i6,i6],.st [i6,i6],.st [i6,i6]] r:=tW hk;have hk:ec B [i6,i6,.st [i6,i6],.st [i6,i6]] r:=tW hk;obtain⟨u1,r,rfl,_,hk⟩:=dI hk;obtain⟨u2,r,rfl,_,hk⟩:=dI hk;have hk:ec B [i6,i6,.st [i6,i6]] r:=tW hk;obtain⟨u3,r,rfl,_,hk⟩:=dI hk;obtain⟨u4,r,rfl,_,hk⟩:=dI hk;have hk:ec B [i6,i6] r:=tW hk;obtain⟨u5,r,rfl,_,hk⟩:=dI hk;obtain⟨u6,r,rfl,_,hk⟩:=dI hk;have:=ib hk;subst this;exact⟨⟨a1,a2,s1,s2,s3,s4,s5,s6,u1,u2,u3,u4,u5,u6⟩,by simp only[eO,Fz,au],⟨b1,b2,b3,b4,b5,b6⟩⟩
def Tu(hk:kh B .str ds):∃s:List Nat,eO ds=aD ah s/\∀b∈s,b<256:=by
 rw[kh] at hk;obtain⟨s,rfl,h1,_⟩:=hk;exact⟨s,by simp only[eO,Fz,aD],h1⟩
def RA(hk:ec B I6 ds):∃s:kj,eO ds=bJ s/\∀b∈s.name,b<256:=by
 unfold I6 at hk;obtain⟨s1,r,rfl,b1,_,hk⟩:=cV hk;obtain⟨nl,rows,r,rfl,_,hr,hk⟩:=iI hk;obtain⟨a2,r,rfl,_,hk⟩:=dI hk;have:=ib hk;subst this;obtain⟨xs,h1,h2,_⟩:=ni (aD ah) (λs=>∀b∈s,b<256) λr hrr=>Tu (hr r hrr);exact⟨⟨s1,xs,a2⟩,by simp only[eO,nJ h1 h2,bJ];rfl,b1⟩
def QT(hk:ec B vz ds):∃k:aM,eO ds=ar k/\((∀b∈k.name,b<256)/\∀s∈k.bN,∀b∈s.name,b<256):=by
 unfold vz at hk;obtain⟨s1,r,rfl,b1,_,hk⟩:=cV hk;obtain⟨v,r,rfl,hk2⟩:=Mg hk;obtain⟨nl,rows,r,rfl,_,hr,hk⟩:=iI hk2;have:=ib hk;subst this;obtain⟨xs,h1,h2,h3⟩:=ni bJ (λs=>∀b∈s.name,b<256) λr hrr=>RA (by have:=hr r hrr;rw[kh] at this;exact this);exact⟨⟨s1,v,xs⟩,by simp only[eO,nJ h1 h2,ar];rfl,b1,h3⟩
def Oh(hB:B<=sC):∀(j:Nat) {ds:List DV},kh B (oN j) ds->∃f:bu,eO ds=aG f/\kS f
 | 0,ds,h=>by
  rw[oN,kh] at h;exact h.elim
 | 1,ds,h=>by
  rw[oN,kh,ec] at h;obtain⟨_,_,_,h,_⟩:=h;rw[kh] at h;exact h.elim
 | j+2,ds,h=>by
  rw[oN,kh] at h;obtain⟨a1,r,rfl,_,hk⟩:=dI h;obtain⟨a2,r,rfl,_,hk⟩:=dI hk;obtain⟨nl,rows,r,rfl,hl,hr,hk⟩:=iI hk;have:=ib hk;subst this;obtain⟨xs,h1,h2,h3⟩:=ni aG kS λr hrr=>Oh hB j (hr r hrr);refine⟨.mk a1 a2 xs,?_,.mk i4 h3⟩;rw[dj,sK];simp only[eO,Fz,nJ h1 h2,h2,h1]
end
def Pz{B:Nat}(hB:B<=sC){j:Nat}{ds:List DV}(hk:ec B [.st [.sl (.st vz)],oN j] ds):∃(c:List aM) (f:bu),eO ds=ao 3 c ar::aG f/\kS f/\∀k∈c,(∀b∈k.name,b<256)/\∀s∈k.bN,∀b∈s.name,b<256:=by
 have hk:ec B [.sl (.st vz),oN j] ds:=tW hk;obtain⟨nl,rows,r,rfl,hl,hr,hk⟩:=iI hk;rw[ec] at hk;obtain⟨d1,d2,rfl,h1,h2⟩:=hk;rw[ec] at h2;subst h2;obtain⟨f,h3,h4⟩:=Oh hB j h1;obtain⟨xs,k1,k2,k3⟩:=ni ar (λk=>(∀b∈k.name,b<256)/\∀s∈k.bN,∀b∈s.name,b<256) λr hrr=>QT (by have:=hr r hrr;rw[kh] at this;exact this);exact⟨xs,f,by rw[eO,nJ k1 k2,bv,h3];rfl,h4,k3⟩
noncomputable def io(L:Nat->Prop)(i:Nat)(x y:SO):SO:=@ite _ (L i) (Classical.propDecidable _) x y
def Dy{L:Nat->Prop}{i:Nat}{x y:SO}(h:L i):io L i x y=x:=ut h
def yW{L:Nat->Prop}{i:Nat}{x y:SO}(h:¬L i):io L i x y=y:=v6 h
def me(L:Nat->Prop)(i k:Nat)(x y:SO):io (λj=>L j\/j=i) k x y=if k=i then x else io L k x y:=by
 by_cases h:k=i
 ·rw[ut h];exact Dy (.inr h)
 ·rw[v6 h];by_cases hl:L k
  ·rw[Dy hl,Dy (.inl hl)]
  ·rw[yW hl,yW λh'=>h'.elim hl h]
def QS(o:Nat)(L:Nat->Prop)(i:Nat)(x y:SO):bW o (io L i x y)=io L i (bW o x) (bW o y):=by
 unfold io;split<;>rfl
def Sr(r:Nat->Nat)(L:Nat->Prop)(i:Nat)(x y:SO):qa r (io L i x y)=io L i (qa r x) (qa r y):=by
 unfold io;split<;>rfl
def re(e:br):iV:=⟨e.u1,e.u2,e.u3,e.u4,e.u5,e.u6⟩
def td(u:iV)(d:Int×Int)(p:ak):ak:={ p with l1:=(eD gH p.l1 p.l2 u.u1 u.u2).1,l2:=(eD gH p.l1 p.l2 u.u1 u.u2).2,l3:=(eD gH p.l3 p.l4 u.u3 u.u4).1,l4:=(eD gH p.l3 p.l4 u.u3 u.u4).2,l5:=(eD gH p.l5 p.l6 d.1 d.2).1,l6:=(eD gH p.l5 p.l6 d.1 d.2).2 }
def uS(dmg:bu)(ins:List (List Nat))(e:br)(p:ak):ak:=if ins.contains p.name=true then td (re e) (l8 dmg (re e)) p else p
def xv(dmg:bu)(ps:List ak)(e:br):List ak:=ps.map (uS dmg (eb ps e.part++[e.part]) e)
def lB(c:List aM)(dmg:bu):Nat->List br->List ak->List ak×Int×Int
 | _,[],s=>(s,-1,0)
 | i,e::r,s=>if (aR c s e).2=0 then (if e.op=4 then lB c dmg (i+1) r (xv dmg (aR c s e).1 e) else lB c dmg (i+1) r (aR c s e).1) else ([],(i:Int),(aR c s e).2)
def eV(day:Int)(e:br):Bool:=decide (day<e.day)
def runN(c:List aM)(dmg:bu)(l:List br)(day:Int):List ak×Int×Int:=if (oJ c&&iM dmg)=true then lB c dmg 0 (eL (dY (eV day) l)) [] else ([],-1,1)
def Tp(r:List ak×Int×Int):SV:=.cx [.ag [ao 14 r.1 ae],ab r.2.1,ab r.2.2]
def fz.Va{p:ak}(h:fz p)(u:iV)(d:Int×Int):fz (td u d p):=⟨h.name,h.kind,h.aT,h.slot,h.len,h.prop⟩
variable{x:ak}
def GG{l:List ak}{p:ak}(h:p∈cy l x):p=x\/p∈l:=by
 unfold cy at h;split at h
 ·rcases d7 h with h | h
  ·exact .inr h
  ·exact .inl h
 ·rcases List.mem_append.1 h with h | h
  ·exact .inr (fd h)
  ·rcases t7 h with h | h
   ·exact .inl h
   ·exact .inr (e6 h)
def wm{l:List bC}{x p:bC}(h:p∈gI l x):p=x\/p∈l:=by
 unfold gI at h;split at h
 ·rcases d7 h with h | h
  ·exact .inr h
  ·exact .inl h
 ·rcases List.mem_append.1 h with h | h
  ·exact .inr (fd h)
  ·rcases t7 h with h | h
   ·exact .inl h
   ·exact .inr (e6 h)
def GF(l:List ak)(x:ak):(cy l x).length<=l.length+1:=by
 unfold cy;split
 ·rw[e5];omega
 ·rw[li,i7,bk,f9];omega
def IV{l:List ak}:cy l x≠[]:=by
 unfold cy;split
 ·rename_i h;intro e;have e2:=rc g8 e;rw[e5] at e2;have e3:l=[]:=t8 e2;subst e3;simp[gz] at h
 ·simp
def tN:fj []:=⟨cv _,λb hb=>by cases hb⟩
def Is(c:List aM)(ps:List ak)(e:br)(hps:∀p∈ps,fz p)(he:lY e):(∃p,aR c ps e=(cy ps p,0)/\fz p)\/∃k,aR c ps e=([],k)/\k≠0:=by
 have hget:∀name p,pO ps (nv 0 [] ps) name=some p->fz p:=by
  intro name p h;unfold pO at h;split at h
  ·exact hps p (ay h)
  ·cases h
 unfold aR;split
 ·split
  ·split
   ·unfold zu;split
    ·exact .inr ⟨3,rfl,by decide⟩
    ·split
     ·exact .inr ⟨4,rfl,by decide⟩
     ·split
      ·exact .inr ⟨7,rfl,by decide⟩
      ·exact .inl ⟨_,rfl,⟨he.part,he.kind,tN,tN,by simp[nQ],λx hx=>by simp[nQ] at hx⟩⟩
   ·split
    ·rename_i p h hp hh;have hpo:=hget _ _ hp;split
     ·exact .inr ⟨5,rfl,by decide⟩
     ·unfold jg;simp only
      repeat' split
      all_goals first
       | exact .inr ⟨_,rfl,by decide⟩
       | exact .inl ⟨p,rfl,hpo⟩
       | exact .inl ⟨_,rfl,⟨hpo.name,hpo.kind,he.aT,he.slot,hpo.len,hpo.prop⟩⟩
       | exact .inl ⟨_,rfl,⟨hpo.name,hpo.kind,tN,tN,hpo.len,hpo.prop⟩⟩
       | exact .inl ⟨_,rfl,⟨hpo.name,hpo.kind,hpo.aT,hpo.slot,hpo.len,hpo.prop⟩⟩
       | (
        refine .inl ⟨_,rfl,⟨hpo.name,hpo.kind,hpo.aT,hpo.slot,?_,?_⟩⟩
        ·rename_i hle;show(gI p.props ⟨e.key,e.value⟩).length<=_;omega
        ·intro x hx
         rcases wm hx with rfl | hx
         ·exact⟨he.key,he.value⟩
         ·exact hpo.prop x hx)
    ·exact .inr ⟨2,rfl,by decide⟩
  ·exact .inr ⟨1,rfl,by decide⟩
 ·exact .inr ⟨1,rfl,by decide⟩
variable{c:List aM}{ps:List ak}
def oM{e:br}(hps:∀p∈ps,fz p)(he:lY e):(∀p∈(aR c ps e).1,fz p)/\(aR c ps e).1.length<=ps.length+1/\((aR c ps e).2=0->(aR c ps e).1≠[])/\((aR c ps e).2≠0->(aR c ps e).1=[]):=by
 rcases Is c ps e hps he with⟨p,h,hp⟩ | ⟨k,h,hk⟩
 ·rw[h];refine⟨λq hq=>?_,GF _ _,λ_=>IV,λh=>un rfl h⟩
  rcases GG hq with rfl | hq
  ·exact hp
  ·exact hps q hq
 ·rw[h];exact⟨λq hq=>by simp at hq,cv _,λh=>un h hk,λ_=>rfl⟩
def x8{dmg:bu}{e:br}(hps:∀p∈ps,fz p):(∀p∈xv dmg ps e,fz p)/\(xv dmg ps e).length=ps.length:=by
 refine⟨λp hp=>?_,ad _⟩;obtain⟨q,hq,rfl⟩:=mem_map.1 hp;unfold uS;split
 ·exact(hps q hq).Va _ _
 ·exact hps q hq
def wJ(e:br)(day:Int):PC ac 46 [.ag (au e),.ip [ab day]] (·=an (eV day e)):=by
 refine pB 8 Tryz.func46 ?_;exact(aB @au.eq_1)<|(zV)<|zo [.tmp 3]
def gQ(B:Nat)(l:List (List Nat)):mK B (e8 l)=true:=by
 unfold e8;split
 ·rfl
 ·rw[mK];exact bM (aC (λ_=>rfl) l)
def fC(B e n:Nat):dD (B+1) (bY 0 e n)=true:=by
 unfold bY;split
 ·exact gq rfl
 ·rw[dD];exact wl (Nat.succ_pos B)
def Om:∀(n:Nat) (r:iU) (ls:List (List Nat)),(du n r ls).length<=r.length
 | 0,_,_=>cv _
 | n+1,r,ls=>by
  rw[du];split
  ·exact cv _
  ·rw[li,ad];have h1:=Om n (r.filter λe=>!ls.contains e.2) ((r.filter λe=>ls.contains e.2).map (·.1));have h2:=Ab (λe:List Nat×List Nat=>ls.contains e.2) r;omega
def kG(ps:List ak)(part:List Nat):(eb ps part).length<=ps.length:=by
 unfold eb;split
 ·have h1:(eh (du (ps.length+2) (GM ps part) [part])).length=(du (ps.length+2) (GM ps part) [part]).length:=(qo _).length_eq;rw[h1];refine ce (Om _ _ _) (ce yA (ce (ck _ _) ?_));have:=C2 ps 0 [];simpa using this
 ·exact cv _
def xY(l:List br)(d:br->Bool):(eL (dY d l)).length<=l.length:=by
 rw[eL,yU];exact cb _ _
def xZ{l:List br}{d:br->Bool}{e:br}(h:e∈eL (dY d l)):e∈l:=(mem_filter.1 ((vq _ _).mem_iff.1 h)).1
abbrev eT(e:br):List SV:=[ah e.part,ah e.kind,ah e.aT,ah e.slot,ah e.key,ah e.value,ab e.u1,ab e.u2,ab e.u3,ab e.u4,ab e.u5,ab e.u6]
abbrev eA(e:br):List SV:=[ab e.op,ab e.day,ah e.part,ah e.kind,ah e.aT,ah e.slot,ah e.key,ah e.value,ab e.u1,ab e.u2,ab e.u3,ab e.u4,ab e.u5,ab e.u6]
abbrev wE(c:List aM)(dmg:bu)(e:br)(ev:List br)(k:Nat):Fm:=[(3,.ip (ao 3 c ar::aG dmg)),(6,.ptr 0 0),(10,.ptr 1 0),(12,.ip (eA e)),(34,ao 14 ev au),(35,ab ev.length),(36,ab k)]
abbrev wF(c:List aM)(dmg:bu)(e:br)(ev:List br)(k:Nat)(I:List (List Nat))(d:Int×Int)(n k2:Nat):Fm:=[(3,.ip (ao 3 c ar::aG dmg)),(6,.ptr 0 0),(10,.ptr 1 0),(12,.ip (eA e)),(15,ao 1 I (aD ah)),(16,.ip [ab d.1,ab d.2]),(34,ao 14 ev au),(35,ab ev.length),(36,ab k),(77,ab n),(78,ab k2)]
def AS(c:List aM)(dmg:bu)(l:List br)(day:Int)(hc:mI c)(hf:gM dmg)(hlen:l.length<20)(hl:∀e∈l,lY e):PC ac 14 [.ag (ao 3 c ar::aG dmg),ao 14 l au,ab day] (·=Tp (runN c dmg l day)):=by
 have hfl:(aG dmg).length=3:=e7 dmg;have hft:(aG dmg).take 3=aG dmg:=bt (by rw[hfl];exact bb _);have hfk:=λo:Nat=>bV (o:=o) (aX dmg);have hfn:=λo:Nat=>cm (o:=o) (aX dmg);refine pB 101 Tryz.func14 ?_;refine(aB (bm hfk hfn)) ?_;refine zZ [(1,ao 14 l au),(3,.ip (ao 3 c ar::aG dmg)),(5,.ptr 1 0),(6,.ptr 2 0),(7,ab 0),(8,ab 0)] 0 rfl ⟨.inl rfl,.inr (.ptr rfl (cA.refl (aX dmg)) (cv _)),zj⟩ ?_
 (try change aE _ _ _ _ _)
 refine(zC)<|(zK (og c hc)) ?_
 cases h1:oJ c
 ·refine(zR)<|(cK)<|(zE) ?_;exact zO [.cell 6 46,.tmp 7,.tmp 8] (r:=.cx [.ag [.sl 0 14 []],ab (-1),ab 1]) (hw:=zv) (hq:=by (try simp only[eC,bK]);first | done | (rw[show runN c dmg l day=([],-1,1) by simp[runN,h1]];rfl))
 refine(MY (bm hfl hft))<|(zK (ra dmg hf) (hwk:=cA.cons (.ag (cA.refl (aX dmg))) .nil)) ?_
 cases h2:Proofs.iM dmg
 ·refine(zR)<|(cK)<|(zE) ?_;exact zO [.cell 6 46,.tmp 7,.tmp 8] (r:=.cx [.ag [.sl 0 14 []],ab (-1),ab 1]) (hw:=zv) (hq:=by (try simp only[eC,bK]);first | done | (rw[show runN c dmg l day=([],-1,1) by simp[runN,h1,h2]];rfl))
 refine(zR)<|(zN) ?_
 have hN:runN c dmg l day=lB c dmg 0 (eL (dY (eV day) l)) []:=by rw[runN,h1,h2];rfl
 refine zA [(1,ao 14 l au),(3,.ip (ao 3 c ar::aG dmg)),(5,.ptr 1 0),(6,.ptr 2 0)] [.gone,.cells [ab day],.cells [.a (.slice none 0 0 (some 0))]] zH ?_;clear h1 h2;obtain⟨kp,hkp⟩:∃kp,kp=dY (eV day) l:=⟨_,rfl⟩
 have hkl:kp.length<=l.length:=by rw[hkp];exact FZ _ _
 rw[<-hkp] at hN
 (repeat refine aE.seq ?_)
 refine aE.mono (Q:=λe st=>e=.normal/\Fg st ⟨[(3,.ip (ao 3 c ar::aG dmg)),(6,.ptr 0 0),(9,ao 14 kp au)],101,[.cells [.a (.slice none 0 0 (some 0))]],[]⟩) ?_ ?_
 ·by_cases hne:l=[]
  ·subst hne;have hk0:kp=[]:=hkp;subst hk0;refine(zC) ?_;refine zS [] (bm hfk hfn) su ?_;refine(zQ) ?_;refine zS [1] (bm hfk hfn) (AB 46 [ab day] rfl (eV day) (λx=>wJ x day)) ?_;refine(zR) ?_;refine⟨rfl,?_⟩;refine Fg.trans (b:=⟨[(3,.ip (ao 3 c ar::aG dmg)),(6,.ptr 2 0),(9,ao 14 [] au)],101,[.gone,.gone,.cells [.a (.slice none 0 0 (some 0))]],[]⟩) ?_ (Fg.rn (f':=[(3,.ip (ao 3 c ar::aG dmg)),(6,.ptr 0 0),(9,ao 14 [] au)]) (n:=101) (S':=[.cells [.a (.slice none 0 0 (some 0))]]) [2] g9 rfl (by (simp only[sL,gA,bP,ao,bl (aX dmg)])<;>(repeat' apply bd)<;>first | trivial | exact .inl rfl | exact .inr rfl | exact .inr trivial | exact .inl trivial) (by (simp only[cY,gA,bP,ao,bl (aX dmg)])<;>(repeat' apply bd)<;>first | rfl | trivial));exact Fg.trans (Fg.wk (f':=[(3,.ip (ao 3 c ar::aG dmg)),(6,.ptr 2 0),(9,ao 14 [] au)]) ⟨.inl rfl,.inl rfl,.inr (.T5 14),trivial⟩) zH
  ·have hne0:¬l.length=0:=λh=>hne (t8 h);have hrq:∀(r:Nat->Nat) (q:List br),mG r (q.flatMap au)=q.flatMap au:=λr q=>bl (aC bU q);have hbq:∀(B:Nat) (q:List br),iy B (q.flatMap au)=true:=λB q=>bM (aC bU q);have hkq:=bp bU;have hdel:=AD 46 [ab day] rfl (eV day) (λx=>wJ x day) l i4;rw[<-hkp] at hdel;obtain⟨q,hq⟩:∃q,q=kp++em (l.length-kp.length) br.zero:=⟨_,rfl⟩
   have hqt:(q.flatMap au).take (kp.length*14)=kp.flatMap au:=by
    rw[gX cL,hq,b0 (bb _),bt (bb _)]
   have hql:(q.flatMap au).length=l.length*14:=by rw[aU cL,hq,li,List.length_replicate];congr 1;omega
   rw[<-hq] at hdel;refine(zC) ?_;refine zS [] (kY hfk hfn hrq hbq hkq) (sv l i4 hne) ?_;refine(zQ) ?_;refine zS [4,1] (kY hfk hfn hrq hbq hkq) hdel ?_;refine(zR) ?_;refine⟨rfl,?_⟩;refine Fg.trans (b:=⟨[(3,.ip (ao 3 c ar::aG dmg)),(6,.ptr 2 0),(9,ao 14 kp au)],101,[.gone,.gone,.cells [.a (.slice none 0 0 (some 0))]],[]⟩) ?_ (Fg.rn (f':=[(3,.ip (ao 3 c ar::aG dmg)),(6,.ptr 0 0),(9,ao 14 kp au)]) (n:=101) (S':=[.cells [.a (.slice none 0 0 (some 0))]]) [2] g9 rfl (by (simp only[sL,gA,bP,ao,bl (aX dmg)])<;>(repeat' apply bd)<;>first | trivial | exact .inl rfl | exact .inr rfl | exact .inr trivial | exact .inl trivial) (by (simp only[cY,gA,bP,ao,bl (aX dmg)])<;>(repeat' apply bd)<;>first | rfl | trivial));exact Fg.trans (Fg.freeze (f':=[(3,.ip (ao 3 c ar::aG dmg)),(6,.ptr 2 0),(9,ao 14 kp au)]) 4 rfl gt ⟨.inl rfl,.inl rfl,.inr (.buf rfl (by rw[hqt];exact cA.refl (aC bU _)) (by rw[hql];exact Nat.mul_le_mul_right 14 hkl)),trivial⟩) zH
 rintro e st ⟨rfl,hfg⟩;refine aE.fg hfg ?_;clear hfg
 (try change aE _ _ _ _ _)
 have hkm:∀e∈eL kp,lY e:=λe he=>hl e (by rw[hkp] at he;exact xZ he)
 have hsl:(eL kp).length<20:=by have:=xY l (eV day);rw[<-hkp] at this;omega
 refine(jC)<|(zK (wR kp i4) (hfl:=.inr (cA.refl (by rw[cj,ao,mC,cj];rfl)))) ?_
 generalize eL kp=ev at hN hkm hsl;refine(zR) ?_
 have hlen1:ev.length<=1000000:=by omega
 refine zA [(3,.ip (ao 3 c ar::aG dmg)),(6,.ptr 0 0),(10,.ptr 1 0),(34,ao 14 ev au),(35,ab ev.length),(36,ab 0)] [.cells [.a (.slice none 0 0 (some 0))],.cells [.a (.slice none 0 0 (some 0))]] zH ?_;refine aE.fg (Fg.UC (S':=[.cells [.a (.slice none 0 0 (some 0))],.cells [ao 14 ([]:List ak) ae]]) ⟨.inr ⟨by decide,.inl rfl⟩,.inr ⟨by decide,.inr ⟨_,_,rfl,rfl,.cons (.nil _) .nil⟩⟩,trivial⟩) ?_
 (try change aE _ _ _ _ _)
 refine(zs) ?_;refine BF ev (λk (ps:List ak)=>(lB c dmg 0 ev []=lB c dmg k (ev.drop k) ps/\(∀p∈ps,fz p)/\ps.length<=k)) (λk ps=>[(3,.ip (ao 3 c ar::aG dmg)),(6,.ptr 0 0),(10,.ptr 1 0),(34,ao 14 ev au),(35,ab ev.length),(36,ab k)]) (λk ps=>[.cells [.a (.slice none 0 0 (some 0))],.cells [ao 14 ps ae]]) ([]) zH (by exact⟨rfl,(λp hp=>by cases hp),bb _⟩) ?_;intro k ps hk hall;refine zT ev k ?_ ?_;rintro rfl;rotate_left;intro e hx hlt;rotate_left
 ·refine(fo) ?_;obtain⟨hr,_,_⟩:=hall;rw[dt] at hr
  refine(zV)<|(zE) ?_;exact zO [.cell 6 46,.tmp 7,.tmp 8] (r:=.cx [.ag [ao 14 ps ae],ab (-1),ab 0]) (hw:=zv) (hq:=by (try simp only[eC,bK]);first | done | (rw[hN,hr];rfl))
 obtain⟨hr,hps,hpl⟩:=hall;rw[eZ hx] at hr;have heo:=hkm e (ay hx);have hap:=Ay c ps e hc i4 hps heo;obtain⟨q1,q2,q3,q4⟩:=oM (c:=c) hps heo
 have hr2:lB c dmg k (e::ev.drop (k+1)) ps=if (aR c ps e).2=0 then (if e.op=4 then lB c dmg (k+1) (ev.drop (k+1)) (xv dmg (aR c ps e).1 e) else lB c dmg (k+1) (ev.drop (k+1)) (aR c ps e).1) else ([],(k:Int),(aR c ps e).2):=rfl
 rw[hr2] at hr;clear hr2;obtain⟨nx,er,hne⟩:∃nx er,aR c ps e=(nx,er):=⟨_,_,rfl⟩;rw[hne] at hap q1 q2 q3 q4 hr;simp only at q1 q2 q3 q4 hr;rw[dq] at hap
 refine(fw)<|(aB (cJ hlt (aL (e:=14) (enc:=au) gc hx) @dq)) ?_;refine zZ [(3,.ip (ao 3 c ar::aG dmg)),(6,.ptr 0 0),(10,.ptr 1 0),(11,ab k),(12,.ip (eA e)),(34,ao 14 ev au),(35,ab ev.length),(36,ab k)] 2 rfl (gE @ao.eq_1) ?_
 (try change aE _ _ _ _ _)
 refine(zC)<|(zK hap (hfl:=.inr zr))<|(cM @ku.eq_1) ?_
 by_cases herr:er=0;rotate_left
 ·rw[v6 herr] at hr;have hnil:=q4 herr
  refine(aB (wd herr))<|(cK)<|(zE) ?_;exact zO [.cell 6 46,.tmp 7,.tmp 8] (r:=.cx [.ag [.sl 0 14 []],ab k,ab er]) (hw:=zv) (hq:=by (try simp only[eC,bK]);first | done | (rw[hN,hr];rfl))
 rw[ut herr] at hr;subst herr
 refine(CP)<|(zV) ?_
 by_cases hop:e.op=4;rotate_left
 ·rw[v6 hop] at hr
  refine(aB (wd hop))<|(zY) ?_;refine aE.exit ?_
  (try change aE _ _ _ _ _)
  refine(aB (zi hlt hlen1)) ?_;refine pw hlt (nx) zH (⟨hr,q1,by omega⟩)
 rw[ut hop] at hr
 refine(aB (wl hop))<|(zN)<|zA (wE c dmg e ev k) [.cells [.a (.slice none 0 0 (some 0))],.cells [ao 14 nx ae]] zH ?_
 obtain⟨ins,hins⟩:∃ins,ins=eb nx e.part:=⟨_,rfl⟩
 have hinl:ins.length<=100000:=by rw[hins];exact ce (kG nx e.part) i4
 (repeat refine aE.seq ?_)
 refine aE.Aq 7 12 (λL=>⟨(58,vo L 0 (.ag [ao 14 nx ae]))::(59,vo L 1 (.ip (eT e)))::(60,vo L 2 (ah e.part))::(61,vo L 3 (bY 2 1 ins.length))::(62,vo L 4 (.ip (eT e)))::(63,vo L 5 (ah e.part))::(64,vo L 6 (.buf 3 1 1 (some 1)))::wE c dmg e ev k,101,[.cells [.a (.slice none 0 0 (some 0))],.cells [ao 14 nx ae],wo L 3 (e8 ins),wo L 6 (.cells [ah e.part])],[]⟩) rfl zW ii g9 zW (cg (bm @x9 @ET)) (λL=>rfl) ?_ ?_
 ·rintro L i o him hC hr
  rcases i with _ | _ | _ | _ | _ | _ | _ | i
  rotate_right
  ·exact un him i4
  ·cases hr.jF;refine(zR) ?_;exact(cg (bm @bB @ft))
  ·cases hr.jF;refine(zR) ?_;exact(cg (bm @bB @ft))
  ·cases hr.jF;have d1:L 1:=hr.dep ⟨1,.data⟩ ge rfl;refine(cM (iT d1)) ?_;exact(cg (cJ @bB @ft (iT d1)))
  ·cases hr.jF;have d0:L 0:=hr.dep ⟨0,.data⟩ ge rfl;have d2:L 2:=hr.dep ⟨2,.data⟩ ge rfl;have hn3:¬L 3:=hr.new;have hin:=oa nx e.part i4;rw[<-hins] at hin;refine aN.sk [] ii rfl rfl ii rfl (yc (bm (iT d0) (iT d2))) (hin) (by simp only[gA,bP,ao,↓reduceIte,aa,al,b7,ap,af,am,cI d0,cI d2,↓mh,c7,hfk,hfn,cE (show 2≠4 by decide),fE,dK,eN,fC,gQ,gp hn3];first | done | rfl) rfl g9 (by simp only[Du,gA,bP,ao,cI d0,cI d2,↓mh,c7,hfk,hfn,cE (show 2≠4 by decide),fE,dK,eN,fC,gQ,gp hn3]<;>(repeat' apply bd)<;>first | trivial | rfl | (intro hh;cases hh)) (by simp only[CE,gA,bP,ao,al,am,decide_true,cI d0,cI d2,↓mh,c7,hfk,hfn,cE (show 2≠4 by decide),fE,dK,eN,fC,gQ,gp hn3];first | done | rfl) (by simp only[CE,gA,bP,ao,al,am,decide_true,cI d0,cI d2,↓mh,c7,hfk,hfn,cE (show 2≠4 by decide),fE,dK,eN,fC,gQ,gp hn3];first | done | rfl) (by simp only[gA,bP,ao,↓reduceIte,aa,al,b7,ap,af,am,cI d0,cI d2,↓mh,c7,hfk,hfn,cE (show 2≠4 by decide),fE,dK,eN,fC,gQ,gp hn3];first | done | rfl) (by simp only[gA,bP,ao,↓reduceIte,aa,al,b7,ap,af,am,cI d0,cI d2,↓mh,c7,hfk,hfn,cE (show 2≠4 by decide),fE,dK,eN,fC,gQ,gp hn3,dB,dh,bW,aP,cY];first | done | rfl) (by simp only[gA,bP,ao,↓reduceIte,aa,al,b7,ap,af,am,cI d0,cI d2,↓mh,c7,hfk,hfn,cE (show 2≠4 by decide),fE,dK,eN,fC,gQ,gp hn3,dB,dh,bW,aP,cY];first | done | rfl) ?_;refine .nil ?_;exact((Fg.rn (f':=(58,(.ag [ao 14 nx ae]))::(59,vo L 1 (.ip (eT e)))::(60,(ah e.part))::(61,(bY 2 1 ins.length))::(62,vo L 4 (.ip (eT e)))::(63,vo L 5 (ah e.part))::(64,vo L 6 (.buf 3 1 1 (some 1)))::wE c dmg e ev k) (n:=101) (S':=[.cells [.a (.slice none 0 0 (some 0))],.cells [ao 14 nx ae],e8 ins,wo L 6 (.cells [ah e.part])]) [0,1,4,3] g9 rfl (by (simp only[sL,gA,bP,ao,Af,Cy,eN,dK,bl (aX dmg),c7,cE (show 2≠4 by decide)])<;>(repeat' apply bd)<;>first | trivial | exact .inl rfl | exact .inr rfl | exact .inr trivial | exact .inl trivial) (by (simp only[cY,gA,bP,ao,Af,Cy,eN,dK,bl (aX dmg),c7,cE (show 2≠4 by decide)])<;>(repeat' apply bd)<;>first | rfl | trivial))).trans (cg (fk @bB @ft (iT d0) (iT d2)))
  ·cases hr.jF;refine(zR) ?_;exact(cg (bm @bB @ft))
  ·cases hr.jF;have d4:L 4:=hr.dep ⟨4,.data⟩ ge rfl;refine(cM (iT d4)) ?_;exact(cg (cJ @bB @ft (iT d4)))
  ·cases hr.jF;have d5:L 5:=hr.dep ⟨5,.data⟩ ge rfl;have hn6:¬L 6:=hr.new;refine aN.r0 ii (by simp only[cY,bP,ao,aF,m7,m6,↓reduceIte,aa,al,ap,af,am,aq,aA,bD,cI d5,↓mh,c7,hfk,hfn,cE (show 2≠4 by decide),fE,gp hn6];first | done | rfl) ?_;exact((Fg.rn (f':=(58,vo L 0 (.ag [ao 14 nx ae]))::(59,vo L 1 (.ip (eT e)))::(60,vo L 2 (ah e.part))::(61,vo L 3 (bY 2 1 ins.length))::(62,vo L 4 (.ip (eT e)))::(63,(ah e.part))::(64,(.buf 3 1 1 (some 1)))::wE c dmg e ev k) (n:=101) (S':=[.cells [.a (.slice none 0 0 (some 0))],.cells [ao 14 nx ae],wo L 3 (e8 ins),.cells [ah e.part]]) [0,1,2,4] g9 rfl (by (simp only[sL,gA,bP,ao,Af,Cy,eN,dK,bl (aX dmg),c7,cE (show 2≠4 by decide)])<;>(repeat' apply bd)<;>first | trivial | exact .inl rfl | exact .inr rfl | exact .inr trivial | exact .inl trivial) (by (simp only[cY,gA,bP,ao,Af,Cy,eN,dK,bl (aX dmg),c7,cE (show 2≠4 by decide)])<;>(repeat' apply bd)<;>first | rfl | trivial))).trans (cg (cJ @bB @ft (iT d5)))
 change aN _ _ _ _ _ _;refine aN.mono (K:=λx=>Fg x ⟨(65,.buf 2 (ins.length+1) 1 none)::wE c dmg e ev k,101,[.cells [.a (.slice none 0 0 (some 0))],.cells [ao 14 nx ae],.cells ((ins++[e.part]).flatMap (aD ah))],[]⟩) ?_ λx hx=>?_
 ·have v7:∀i,i<7->∀v:SV,vo (λj=>j<7) i v=v:=λi h v=>cI h;have w7:∀i,i<7->∀v:SO,wo (λj=>j<7) i v=v:=λi h v=>oF h;have a3:=v7 3 g9;have a6:=v7 6 g9;have b3:=w7 3 g9;have b6:=w7 6 g9;have happ:=kr (enc:=aD ah) (e:=1) gc (λ_=>rfl) 2 ins e.part;rw[show aD ah e.part=[ah e.part] from rfl,b9] at happ;have hcl:=aU (enc:=aD ah) (e:=1) gc ins;by_cases hi0:ins=[]
  ·subst hi0;refine(cM (NI a3 a6 b3 b6 @jW @i5.{0} @gw hfk hfn @c7)) ?_;exact((Fg.rn (f':=(65,.buf 2 1 1 none)::wE c dmg e ev k) (n:=101) (S':=[.cells [.a (.slice none 0 0 (some 0))],.cells [ao 14 nx ae],.cells [ah e.part]]) [0,1,4] g9 rfl (by (simp only[sL,gA,bP,ao,bl (aX dmg)])<;>(repeat' apply bd)<;>first | trivial | exact .inl rfl | exact .inr rfl | exact .inr trivial | exact .inl trivial) (by (simp only[cY,gA,bP,ao,bl (aX dmg)])<;>(repeat' apply bd)<;>first | rfl | trivial))).trans (cg (kY @aD.eq_1 @nil_append.{0} @flatMap_cons.{0,0} @flatMap_nil.{0,0} @i5.{0}))
  ·have hil:¬ins.length=0:=λh=>hi0 (t8 h);refine(cM (bm (Lx a3 a6 b3 b6 (dQ (o:=2) (e:=1) hil) (fK hi0) hfk hfn @c7) (vc (λo:Nat=>bp (enc:=aD ah) gc o ins) hcl @b9 @bb (show ins.length<=1000000 by omega) happ))) ?_;exact zH
 change aN _ _ _ _ _ _;refine aN.fg hx ?_;refine(zR) ?_;change aE _ _ _ _ _;refine zA ((15,.buf 2 (ins.length+1) 1 none)::wE c dmg e ev k) [.cells [.a (.slice none 0 0 (some 0))],.cells [ao 14 nx ae],.cells ((ins++[e.part]).flatMap (aD ah))] zH ?_;obtain⟨I,hI⟩:∃I,I=ins++[e.part]:=⟨_,rfl⟩
 have hIl:I.length=ins.length+1:=by rw[hI,li];rfl
 rw[<-hI];refine zZ [(3,.ip (ao 3 c ar::aG dmg)),(6,.ptr 0 0),(10,.ptr 1 0),(12,.ip (eA e)),(15,ao 1 I (aD ah)),(34,ao 14 ev au),(35,ab ev.length),(36,ab k)] 2 rfl ⟨.inl rfl,.inl rfl,.inl rfl,.inl rfl,.inr (by rw[qf 1 I (aD ah),hIl];exact .buf rfl (by rw[<-hIl,dU (enc:=aD ah) (e:=1) gc];exact cA.refl (aC (λ_=>rfl) _)) (by rw[aU (enc:=aD ah) (e:=1) gc,hIl];exact bb _)),zj⟩ ?_
 (try change aE _ _ _ _ _)
 have hd:=G5 dmg (re e) hf;simp only[ek,re] at hd;obtain⟨d,hdd⟩:∃d,d=l8 dmg (re e):=⟨_,rfl⟩;have hdd2:l8 dmg ⟨e.u1,e.u2,e.u3,e.u4,e.u5,e.u6⟩=d:=hdd.symm;rw[hdd2] at hd
 refine(eQ (bm hfl hft))<|(zK hd (hwk:=cA.cons (.ag (cA.refl (aX dmg))) (.cons (.ag zr) .nil)))<|(cM (fk @oG.eq_1 @ly.eq_1 hfk hfn)) ?_
 have hnn:=q3 rfl;have hn0:0<nx.length:=dC λh=>hnn (t8 h);have hrq:∀(r:Nat->Nat) (q:List ak),mG r (q.flatMap ae)=q.flatMap ae:=λr q=>bl (aC dr q);have hbq:∀(B:Nat) (q:List ak),iy B (q.flatMap ae)=true:=λB q=>bM (aC dr q);have hkq:=bp (enc:=ae) dr
 refine(zC) ?_;refine zS [] (kY hfk hfn hrq hbq hkq) (qq nx i4 hnn) ?_;refine(zR)<|(zV)<|zA [(3,.ip (ao 3 c ar::aG dmg)),(6,.ptr 0 0),(10,.ptr 1 0),(12,.ip (eA e)),(15,ao 1 I (aD ah)),(16,.ptr 3 0),(34,ao 14 ev au),(35,ab ev.length),(36,ab k),(76,.buf 5 nx.length 14 none),(77,ab nx.length),(78,ab 0)] [.cells [.a (.slice none 0 0 (some 0))],.cells [.buf 5 nx.length 14 none],.gone,.cells [ab d.1,ab d.2],.gone,.cells (nx.flatMap ae)] zH ?_;refine zZ (wF c dmg e ev k I d nx.length 0) 3 rfl (gE @ao.eq_1) ?_;refine zA (wF c dmg e ev k I d nx.length 0) [.cells [.a (.slice none 0 0 (some 0))],.cells [.buf 2 nx.length 14 none],.cells (nx.flatMap ae)] (Fg.rn [0,1,5] g9 rfl (by (simp only[sL,gA,bP,ao,hrq,bl (aX dmg)])<;>(repeat' apply bd)<;>first | trivial | exact .inl rfl | exact .inr rfl | exact .inr trivial | exact .inl trivial) (by (simp only[cY,gA,bP,ao,hrq,bl (aX dmg)])<;>(repeat' apply bd)<;>first | rfl | trivial)) ?_
 have hIu:xv dmg nx e=nx.map (uS dmg I e):=by unfold xv;rw[hI,hins]
 have hnl:nx.length<=1000000:=by omega
 refine(zs) ?_;refine zL nx (λk2=>True) (λk2=>(wF c dmg e ev k I d nx.length k2)) (λk2=>[.cells [.a (.slice none 0 0 (some 0))],.cells [.buf 2 nx.length 14 none],.cells ((((nx.take k2).map (uS dmg I e))++nx.drop k2).flatMap ae)]) (cg (fk @take_zero.{0} @map_nil.{0,0} @drop_zero.{0} @nil_append.{0})) zp ?_;intro k2 hk2 hall2;refine zT nx k2 ?_ ?_;rintro rfl;rotate_left;intro p hx2 hlt2;rotate_left
 ·refine(fo) ?_;rw[bF,dt,bv,<-hIu];obtain⟨r1,r2⟩:=x8 (dmg:=dmg) (e:=e) q1;generalize xv dmg nx e=ux at hr r1 r2;refine aE.fg (Fg.ma (f':=[(3,.ip (ao 3 c ar::aG dmg)),(6,.ptr 0 0),(10,.ptr 1 0),(12,.ip (eA e)),(15,ao 1 I (aD ah)),(34,ao 14 ev au),(35,ab ev.length),(36,ab k)]) (S':=[.cells [.a (.slice none 0 0 (some 0))],.cells [ao 14 ux ae]]) 2 rfl gt (gE @ao.eq_1) ⟨.inr ⟨by decide,.inl rfl⟩,.inr ⟨by decide,.inr ⟨_,_,rfl,rfl,.cons (by rw[qf 14 ux ae,r2];exact .buf rfl (by rw[<-r2,dU (enc:=ae) (e:=14) gc];exact cA.refl (aC dr _)) (by rw[aU (enc:=ae) (e:=14) gc,r2];exact bb _)) .nil⟩⟩,trivial⟩) ?_
  (try change aE _ _ _ _ _)
  refine(aB (zi hlt hlen1)) ?_;refine pw hlt (ux) zH (⟨hr,r1,by omega⟩)
 have hdrop:=eZ hx2;obtain⟨q,hq⟩:∃q,q=(nx.take k2).map (uS dmg I e)++nx.drop k2:=⟨_,rfl⟩
 have hqx:q[k2]?=some p:=by
  rw[hq,List.getElem?_append_right (by rw[ad,bk];omega),ad,bk,dv i4,dd,hdrop];rfl
 have hql:q.length=nx.length:=by rw[hq,li,ad,bk,f9];omega
 have hqc:(q.flatMap ae).length=nx.length*14:=by rw[aU (enc:=ae) (e:=14) gc,hql]
 have hnext:((nx.take (k2+1)).map (uS dmg I e)++nx.drop (k2+1))=q.set k2 (uS dmg I e p):=by
  rw[hq,cq hx2,d6,hdrop,List.set_append_right _ _ (by rw[ad,bk];omega),ad,bk,dv i4,dd,set_cons_zero,c5];rfl
 have hcell:(q.flatMap ae)[k2*14]?=some (ah p.name):=by
  have h1:((q.flatMap ae).drop (k2*14)).take 14=ae p:=aL (e:=14) (enc:=ae) gc hqx;have h2:=rc (λl=>l[0]?) h1;simp only[d9,d8,bw] at h2;exact h2
 rw[<-hq]
 refine(fw)<|(zV)<|(eQ (cJ hlt2 @bw hcell))<|(zK (iL I p.name i4) (hwk:=cA.cons (.sl _ _ _) (.cons (.a _) .nil))) ?_
 cases hcn:I.contains p.name
 ·have hup:uS dmg I e p=p:=by unfold uS;rw[hcn];rfl
  rw[hup] at hnext
  have hset:q.set k2 p=q:=by
   apply List.ext_getElem?;intro j;by_cases hj:k2=j
   ·subst hj;rw[List.getElem?_set_self (bo hqx),hqx]
   ·rw[List.getElem?_set_ne hj]
  rw[hset] at hnext
  refine(zR)<|(zN)<|(aB (zi hlt2 hnl)) ?_;refine zX hlt2 (cg hnext) trivial
 refine(zR)<|(zY) ?_
 have hup:uS dmg I e p=td (re e) d p:=by unfold uS;rw[hcn,<-hdd];rfl
 obtain⟨A,hA⟩:∃A,A=(q.take k2).flatMap ae++[ah p.name,ah p.kind,ah p.aT,ah p.slot,ab p.made,ab p.since,an p.bq,ao 2 p.props aI]:=⟨_,rfl⟩;obtain⟨B,hB⟩:∃B,B=(q.drop (k2+1)).flatMap ae:=⟨_,rfl⟩
 have hkl:k2<q.length:=by omega
 have hAl:A.length=k2*14+8:=by rw[hA,li,aU (enc:=ae) (e:=14) gc,bk,dv i4];rfl
 have hqs:q.take k2++(p::q.drop (k2+1))=q:=by rw[<-eZ hqx,List.take_append_drop]
 have hsplit:q.flatMap ae=A++(Cc p.l1 p.l2 p.l3 p.l4 p.l5 p.l6++B):=by
  rw[hA,hB,c5]
  conv=>lhs;rw[<-hqs,b8,flatMap_cons]
  rfl
 have hset:(q.set k2 (td (re e) d p)).flatMap ae=A++(OB p.l1 p.l2 p.l3 p.l4 p.l5 p.l6 (re e) d.1 d.2++B):=by
  rw[hA,hB,c5,cl,ut hkl,b8,flatMap_cons];rfl
 rw[hup] at hnext;have hla:=Et A B p.l1 p.l2 p.l3 p.l4 p.l5 p.l6 (re e) d.1 d.2 (by rw[<-hsplit];exact aC dr q);rw[<-hsplit,<-hset,hAl] at hla;simp only[ek,re,ly] at hla;refine aE.Aq 8 9 (λL=>⟨(89,vo L 0 (.ptr 1 0))::(90,vo L 1 (.buf 2 nx.length 14 none))::(91,vo L 2 (ab k2))::(92,vo L 3 (.ptr 2 (k2*14)))::(93,vo L 4 (.ptr 2 (k2*14+8)))::(94,vo L 5 (.ip [ab e.u1,ab e.u2,ab e.u3,ab e.u4,ab e.u5,ab e.u6]))::(95,vo L 6 (.ag [ab e.u1,ab e.u2,ab e.u3,ab e.u4,ab e.u5,ab e.u6]))::(96,vo L 7 (.ag [ab d.1,ab d.2]))::(17,ab k2)::wF c dmg e ev k I d nx.length k2,101,[.cells [.a (.slice none 0 0 (some 0))],.cells [.buf 2 nx.length 14 none],.cells (q.flatMap ae)],[]⟩) rfl zW ii g9 zW (cg @x9) (λL=>rfl) ?_ ?_
 ·rintro L i o him hC hr
  rcases i with _ | _ | _ | _ | _ | _ | _ | _ | i
  rotate_right
  ·exact un him i4
  ·cases hr.jF;refine(zR) ?_;exact(cg @bB)
  ·cases hr.jF;have d0:L 0:=hr.dep ⟨0,.data⟩ ge rfl;refine(cM (iT d0)) ?_;exact(cg (bm @bB (iT d0)))
  ·cases hr.jF;refine(zR) ?_;exact(cg @bB)
  ·cases hr.jF;have d1:L 1:=hr.dep ⟨1,.data⟩ ge rfl;have d2:L 2:=hr.dep ⟨2,.data⟩ ge rfl;refine(cM (cJ (iT d1) (iT d2) hlt2)) ?_;exact(cg (cJ @bB (iT d1) (iT d2)))
  ·cases hr.jF;have d3:L 3:=hr.dep ⟨3,.data⟩ ge rfl;refine(cM (bm (iT d3) hqc)) ?_;exact(cg (bm @bB (iT d3)))
  ·cases hr.jF;refine(zR) ?_;exact(cg @bB)
  ·cases hr.jF;have d5:L 5:=hr.dep ⟨5,.data⟩ ge rfl;refine(cM (iT d5)) ?_;exact(cg (bm @bB (iT d5)))
  ·cases hr.jF;refine(zR) ?_;exact(cg @bB)
 have v8:∀i,i<8->∀v:SV,vo (λj=>j<8) i v=v:=λi h v=>cI h;have v84:=v8 4 g9;have v86:=v8 6 g9;have v87:=v8 7 g9;change aN _ _ _ _ _ _;refine oA ((93,.ptr 2 (k2*14+8))::(95,.ag [ab e.u1,ab e.u2,ab e.u3,ab e.u4,ab e.u5,ab e.u6])::(96,.ag [ab d.1,ab d.2])::wF c dmg e ev k I d nx.length k2) [.cells [.a (.slice none 0 0 (some 0))],.cells [.buf 2 nx.length 14 none],.cells (q.flatMap ae)] (cg (cJ v84 v86 v87)) ?_;refine zS [2] (kY hfk hfn hrq hbq hkq) hla ?_;refine(zR) ?_;simp only[re] at hnext;refine(aB (zi hlt2 hnl)) ?_;refine zX hlt2 (cg hnext) trivial
def wQ(day fr:Int)(hd:0<=day/\day<=40000):PC ac 275 [ab day,ab fr] (·=.ag [ab (gD day fr),ab (gD day fr)]):=by
 refine pB 19 Tryz.func275 ?_;refine(zV) ?_;cases g:decide (day<=fr)
 ·have hg:=wt g
  have hs:gD day fr=day-(if day-1000000000000<=fr then fr else day-1000000000000):=by rw[gD,v6 hg]
  have hm:dV fr (day-1000000000000)=if day-1000000000000<=fr then fr else day-1000000000000:=rfl
  rw[<-hm] at hs
  have hb:fr<=dV fr (day-1000000000000)/\day-1000000000000<=dV fr (day-1000000000000)/\dV fr (day-1000000000000)<=40000:=by unfold dV;split<;>omega
  rw[hs];have hx:=fp fr (day-1000000000000);generalize dV fr (day-1000000000000)=m at hb hx
  exact(aB g)<|(zN)<|(aB (cJ (RW (P:=ac) (t:=3) (show -9223372036854775808<=day-1000000000000/\day-1000000000000<=9223372036854775807 from⟨by omega,by omega⟩)) hx (RW (P:=ac) (t:=3) (show -9223372036854775808<=day-m/\day-m<=9223372036854775807 from⟨by omega,by omega⟩))))<|(zV)<|zo [.cell 4 52]
 ·have hs:gD day fr=0:=by rw[gD,ut (ww g)]
  rw[hs]
  exact(aB g)<|(cK)<|zo [.cell 4 52]
def ME(p:ak)(day:Int)(hd:0<=day/\day<=40000):PC ac 280 [.ag (ae p),ab day,.ip [.fn 275 [] []]] (·=.ag [ab (gD day p.made),ab (gD day p.made)]):=by
 refine pB 11 Tryz.func280 ?_;exact(aB @ae.eq_1)<|(zC)<|(zK (wQ day p.made hd))<|(zR)<|zo [.cell 5 52]
abbrev Sv:=List (List Nat×SV)
def pn{S:List SO}{o:Nat}{l:Sv}(s:List Nat)(u:SV)(hS:S[o]?=some (bG AV.str id l)):iF ac S 288 (.map o) (.a (.str s)) u=some (S.set o (bG AV.str id (cC s u l))):=
 IW (uv:=id) (kt:=9) (et:=286) (by simp only[aF]) mr hS rfl u
def C9:SV:=.ip [.fn 275 [] []]
def nA:Sv:=cC [97,103,101] (.fn 280 [] [C9]) (cC [100,97,121,115] (.fn 279 [] [C9]) (cC [100,97,109,97,103,101] (.fn 278 [] []) (cC [99,121,99,108,101,115] (.fn 277 [] []) (cC [107,109] (.fn 276 [] []) []))))
def kO:PC ac 220 [] (·=mc AV.str id nA):=by
 refine pB 6 Tryz.func220 ?_;refine(nD) ?_;refine zZ [(1,.ip [.fn 275 [] []])] 0 rfl zG<|zA [(1,.ip [.fn 275 [] []])] [] zH ?_
 have hm0:SO.map [] [] none=bG AV.str (id:SV->SV) []:=rfl;have p1:=λu=>pn (S:=[bG AV.str id []]) (o:=0) (l:=[]) [107,109] u rfl;have p2:=λ(l:Sv) u=>pn (S:=[bG AV.str id l]) (o:=0) (l:=l) [99,121,99,108,101,115] u rfl;have p3:=λ(l:Sv) u=>pn (S:=[bG AV.str id l]) (o:=0) (l:=l) [100,97,109,97,103,101] u rfl;have p4:=λ(l:Sv) u=>pn (S:=[bG AV.str id l]) (o:=0) (l:=l) [100,97,121,115] u rfl;have p5:=λ(l:Sv) u=>pn (S:=[bG AV.str id l]) (o:=0) (l:=l) [97,103,101] u rfl
 refine(aB (EY hm0 p1 p2 p3 p4 p5 @set_cons_zero.{0}))<|(zE) ?_;exact BJ.of (rs:=[.tmp 0]) (r:=mc AV.str id nA) rfl rfl zl (by exact .map rfl zr) zq
def kQ{S:List SO}{l:Sv}(s:List Nat)(ok:Bool):jm ac S 288 (mc AV.str id l) (.a (.str s)) ok=some (cond ok (.cx [getM (uC (.ej)) s l,an (dA s l)]) (getM (uC (.ej)) s l)):=
 Sb (uv:=id) (u0:=uC (.ej)) (k:=s) (kt:=9) (et:=286) (z:=.ej) (by simp only[aF]) mr zW rfl rfl ok
def bE(ps:List ak)(name:List Nat):Option ak:=ps.find? λp=>decide (p.name=name)
def Od{name:List Nat}{k:Nat}{p:ak}(hx:ps[k]?=some p)(hp:p.name=name)(hb:((ps.take k).all λp=>!(decide (p.name=name)))=true):bE ps name=some p:=by
 unfold bE;rw[List.find?_eq_some_iff_getElem];obtain⟨hlt,he⟩:=rt hx;refine⟨by simpa using hp,k,hlt,he,λj hj=>?_⟩;have h1:=all_eq_true.1 hb (ps[j]' i4) (by rw[mem_iff_getElem?];exact⟨j,by rw[d9,ut hj];exact jp i4⟩);simpa using h1
def Oe{name:List Nat}(hb:(ps.all λp=>!(decide (p.name=name)))=true):bE ps name=none:=by
 unfold bE;rw[List.find?_eq_none];intro p hp;have h1:=all_eq_true.1 hb p hp;simpa using h1
def HT:List SV:=[ah [],ah [],ah [],ah [],ab 0,ab 0,an false,bH,ab 0,ab 0,ab 0,ab 0,ab 0,ab 0]
def gn(ps:List ak)(name:List Nat)(hlen:ps.length<=1000000):PC ac 15 [.ag [ao 14 ps ae],ah name] (·=jf ae ak.zero (bE ps name)):=by
 refine pB 22 Tryz.func15 ?_;refine(zV) ?_;refine zZ [(1,ah name),(2,.ip [ao 14 ps ae]),(4,.ptr 1 0)] 0 rfl (gE @ao.eq_1) ?_
 (try change aE _ _ _ _ _)
 refine(zV)<|(zs) ?_;refine zL ps (λk=>((ps.take k).all λp=>!(decide (p.name=name)))=true) (λk=>[(1,ah name),(4,.ptr 1 0),(9,ao 14 ps ae),(10,ab ps.length),(11,ab k)]) (λk=>[.gone,.cells HT]) (cg @HT.eq_1) zp ?_;intro k hk hall;refine zT ps k ?_ ?_;rintro rfl;rotate_left;intro p hx hlt;rotate_left
 ·refine(fo) ?_;rw[bF] at hall;rw[Oe hall]
  exact(aB @HT.eq_1)<|kn [.cell 4 56,.tmp 5] (r:=.cx [.ag (ae ak.zero),an false]) (hw:=.cx (.cons (.ag (.cons (.a _) (.cons (.a _) (.cons (.a _) (.cons (.a _) (.cons (.a _) (.cons (.a _) (.cons (.a _) (.cons (.nil 2) zr))))))))) zr))
 refine(fw)<|(aB (fk hlt (aL (e:=14) (enc:=ae) gc hx) @ae.eq_1 @HT.eq_1)) ?_
 cases he:decide (p.name=name)
 ·refine(aB he)<|(zN)<|(aB (zi hlt hlen)) ?_;refine zX hlt (cg (bm @ae.eq_1 @HT.eq_1)) (by rw[cq hx,e4,hall];show(true&&(!(decide (p.name=name))&&true))=true;rw[he];rfl)
 ·rw[Od hx (ww he) hall]
  exact(aB he)<|(zY)<|(aB @ae.eq_1)<|kn [.cell 4 56,.tmp 5]
inductive aY where
 | mk (op:Int) (name value:List Nat) (n extra:Int) (kids:List aY)
def aY.op:aY->Int
 | .mk op _ _ _ _ _=>op
def aY.name:aY->List Nat
 | .mk _ name _ _ _ _=>name
def aY.value:aY->List Nat
 | .mk _ _ value _ _ _=>value
def aY.n:aY->Int
 | .mk _ _ _ n _ _=>n
def aY.extra:aY->Int
 | .mk _ _ _ _ extra _=>extra
def aY.kids:aY->List aY
 | .mk _ _ _ _ _ kids=>kids
mutual
def aV:aY->List SV
 | .mk op name value n extra kids=>[ab op,ah name,ah value,ab n,ab extra,.sl kids.length 6 (qD kids)]
def qD:List aY->List SV
 | []=>[]
 | f::fs=>aV f++qD fs
end
def vX:∀l:List aY,qD l=l.flatMap aV
 | []=>by rw[qD];rfl
 | f::l=>by rw[qD,vX l,flatMap_cons]
def gT(op:Int)(name value:List Nat)(n extra:Int)(kids:List aY):aV (.mk op name value n extra kids)=[ab op,ah name,ah value,ab n,ab extra,.sl kids.length 6 (kids.flatMap aV)]:=by rw[aV,vX]
def jt(f:aY):(aV f).length=6:=by
 obtain⟨op,name,value,n,extra,kids⟩:=f;rw[gT];rfl
inductive gB:aY->Prop
 | mk {op:Int} {name value:List Nat} {n extra:Int} {kids:List aY}:fj name->fj value->kids.length<=1000000->(∀k∈kids,gB k)->gB (.mk op name value n extra kids)
def mF:List (List Nat):=[[116,114,117,101],[110,111,116],[97,110,100],[111,114],[108,105,109,105,116],[111,118,101,114],[104,97,115],[115,108,111,116],[97,108,108],[97,110,121],[97,116]]
def Iw(n low:Int):Bool:=decide (low<=n)&&decide (n<=9999999)
structure RU where
 kids:Bool
 named:Bool
 ok:Bool
 value:List Nat
 n:Int
 extra:Int
def TQ(e:aY):Option RU:=
 let none0:=decide ((e.kids.length:Int)=0)
 if e.op=1 then some ⟨none0,false,true,[],0,0⟩
 else if e.op=2 then some ⟨decide ((e.kids.length:Int)=1),false,true,[],0,0⟩
 else if e.op=3\/e.op=4 then some ⟨decide (1<(e.kids.length:Int)),false,true,[],0,0⟩
 else if e.op=5 then some ⟨none0,true,Iw e.n 0&&Iw e.extra 0,[],e.n,e.extra⟩
 else if e.op=6 then some ⟨none0,true,Iw e.n 0,[],e.n,0⟩
 else if e.op=7 then some ⟨none0,true,!(decide (e.value=[]))&&(decide ((e.value.length:Int)<=200)&&!(mF.contains e.name)),e.value,0,0⟩
 else if e.op=8 then some ⟨none0,true,true,[],0,0⟩
 else if e.op=9 then some ⟨none0,true,cN e.value,e.value,0,0⟩
 else if e.op=10\/e.op=11 then some ⟨decide ((e.kids.length:Int)=1),true,true,[],0,0⟩
 else if e.op=12 then some ⟨none0,true,Iw e.n 1,[],e.n,0⟩
 else none
def Gr(q:RU)(e:aY):Bool:=(q.ok&&(!q.named||cN e.name))&&(q.kids&&((q.named||decide (e.name=[]))&&(decide (q.value=e.value)&&(decide (q.n=e.n)&&decide (q.extra=e.extra)))))
def iO(e:aY):Bool:=match TQ e with
 | some q=>Gr q e
 | none=>false
mutual
def fH:aY->List aY
 | .mk op name value n extra kids=>.mk op name value n extra kids::mn kids
def mn:List aY->List aY
 | []=>[]
 | k::ks=>fH k++mn ks
end
def oh(e:aY):Bool:=decide ((fH e).length<=60)&&(fH e).all iO
def j6(a:Int):Int:=if a=0\/a=2 then a else 1
def Mf(a:Int):Int:=2-j6 a
def CY(a b:Int):Int:=ff (j6 a) (j6 b)
def Rr(a b:Int):Int:=dV (j6 a) (j6 b)
def EV(b:Bool):Int:=if b=true then 2 else 0
def dm(p:ak)(cur:List Nat)(day:Int):(Int×Int)×Int:=
 let v:=λ(x:Int×Int)=>if day<0\/40000<day then (((0,0):Int×Int),(13:Int)) else (x,0)
 if cur=[107,109] then v (p.l1,p.l2) else if cur=[99,121,99,108,101,115] then v (p.l3,p.l4) else if cur=[100,97,109,97,103,101] then v (p.l5,p.l6)
 else if cur=[100,97,121,115] then v (gD day p.since,gD day p.since) else if cur=[97,103,101] then v (gD day p.made,gD day p.made) else ((0,0),15)
def da(ps:List ak)(name:List Nat):ak:=(bE ps name).getD ak.zero
def iD(ps:List ak)(part kind:List Nat):List (List Nat):=(eb ps part).filter λn=>decide ((da ps n).kind=kind)
def Sa(ps:List ak)(day:Int)(op:Int)(name value:List Nat)(n extra:Int)(part:List Nat):Int:=
 let p:=da ps part
 if op=1 then 2
 else if op=5 then (if (dm p name day).2=0 then Mf (pa (dm p name day).1.1 (dm p name day).1.2 (n+extra)) else 0)
 else if op=6 then (if (dm p name day).2=0 then pa (dm p name day).1.1 (dm p name day).1.2 n else 0)
 else if op=7 then EV (p.props.any λx=>decide (x.key=name)&&decide (x.value=value))
 else if op=8 then EV (p.props.any λx=>decide (x.key=name))
 else if op=9 then EV (ps.any λq=>decide (q.aT=part)&&(decide (q.slot=name)&&decide (q.kind=value)))
 else EV (decide (n<=((iD ps part name).length:Int)))
mutual
def iX(ps:List ak)(day:Int):aY->List Nat->Int
 | .mk op name value n extra kids,part=>
  if op=2 then Mf ((C1 ps day kids part).headD 0)
  else if op=3 then (C1 ps day kids part).foldl CY 2
  else if op=4 then (C1 ps day kids part).foldl Rr 0
  else if op=10 then (Qb ps day kids (iD ps part name)).foldl CY 2
  else if op=11 then (Qb ps day kids (iD ps part name)).foldl Rr 0
  else Sa ps day op name value n extra part
def C1(ps:List ak)(day:Int):List aY->List Nat->List Int
 | [],_=>[]
 | k::ks,part=>iX ps day k part::C1 ps day ks part
def Qb(ps:List ak)(day:Int):List aY->List (List Nat)->List Int
 | [],_=>[]
 | k::_,names=>names.map λn=>iX ps day k n
end
def qY(ps:List ak):Nat->List Nat->List Nat
 | 0,_=>[]
 | f+1,part=>match bE ps part with
  | none=>[]
  | some p=>if p.aT=[] then part else qY ps f p.aT
def K2(ps:List ak)(part:List Nat):List Nat:=qY ps ps.length part
def lK(ps:List ak)(e:aY)(part:List Nat)(day:Int):Int:=if oh e=true/\K2 ps part≠[] then iX ps day e part else 0
def Jc(a:Int):0<=j6 a/\j6 a<=2:=by unfold j6;split<;>omega
def lC(a:Int):PC ac 219 [ab a] (·=ab (j6 a)):=by
 refine pB 8 Tryz.func219 ?_;refine(nD)<|(zB) ?_
 cases h0:decide (a=0)
 ·cases h2:decide (a=2)
  ·exact(aB h0)<|(zN)<|(aB h2)<|(lD)<|zo [.tmp 2] (hq:=by rw[j6,v6 (λh=>h.elim (wt h0) (wt h2))])
  ·exact(aB h0)<|(zN)<|(aB h2)<|(cK)<|zo [.tmp 2] (hq:=by rw[j6,ut (.inr (ww h2))])
 ·exact(aB h0)<|(zY)<|(zY)<|(zV)<|zo [.tmp 2] (hq:=by rw[j6,ut (.inl (ww h0))])
def CL(a:Int):PC ac 133 [ab a] (·=ab (Mf a)):=by
 refine pB 6 Tryz.func133 ?_;have hb:=Jc a
 exact(jC)<|(zK (lC a))<|(cM (RW (P:=ac) (t:=74) (show -9223372036854775808<=2-j6 a/\2-j6 a<=9223372036854775807 from⟨by omega,by omega⟩)))<|zo [.tmp 2]
def CF(a b:Int):PC ac 134 [ab a,ab b] (·=ab (CY a b)):=by
 refine pB 10 Tryz.func134 ?_;exact(jC)<|(zK (lC a))<|(zQ)<|(zK (lC b))<|(cM @jo)<|zo [.tmp 4]
def Hq(a b:Int):PC ac 135 [ab a,ab b] (·=ab (Rr a b)):=by
 refine pB 10 Tryz.func135 ?_;exact(jC)<|(zK (lC a))<|(zQ)<|(zK (lC b))<|(cM @fp)<|zo [.tmp 4]
def rY(b:Bool):PC ac 138 [an b] (·=ab (EV b)):=by
 refine pB 4 Tryz.func138 ?_;refine(nD) ?_;cases b
 ·exact(lD)<|zo [.tmp 2]
 ·exact(cK)<|zo [.tmp 2]
def pj(n low:Int):PC ac 217 [ab n,ab low] (·=an (Iw n low)):=by
 refine pB 12 Tryz.func217 ?_;refine(zV) ?_;cases h1:decide (low<=n)
 ·exact(aB h1)<|zo [.tmp 4] (hq:=by rw[Iw,h1];rfl)
 ·exact(aB h1)<|zo [.tmp 4] (hq:=by rw[Iw,h1];rfl)
def AQ(s:List Nat):PC ac 218 [ah s] (·=an (mF.contains s)):=by
 refine pB 6 Tryz.func218 ?_;exact(jC)<|(zK (iL mF s g9) (hwk:=.cons (.buf rfl (cA.refl rfl) g9) (.cons (.a _) .nil)))<|(zR)<|zo [.tmp 2]
def PI(p:ak)(day:Int):PC ac 276 [.ag (ae p),ab day] (·=.ag [ab p.l1,ab p.l2]):=by
 refine pB 8 Tryz.func276 ?_;exact(aB @ae.eq_1)<|(zV)<|zo [.cell 4 52]
def PE(p:ak)(day:Int):PC ac 277 [.ag (ae p),ab day] (·=.ag [ab p.l3,ab p.l4]):=by
 refine pB 8 Tryz.func277 ?_;exact(aB @ae.eq_1)<|(zV)<|zo [.cell 4 52]
def PF(p:ak)(day:Int):PC ac 278 [.ag (ae p),ab day] (·=.ag [ab p.l5,ab p.l6]):=by
 refine pB 8 Tryz.func278 ?_;exact(aB @ae.eq_1)<|(zV)<|zo [.cell 4 52]
def Jf(p:ak)(day:Int)(hd:0<=day/\day<=40000):PC ac 279 [.ag (ae p),ab day,.ip [.fn 275 [] []]] (·=.ag [ab (gD day p.since),ab (gD day p.since)]):=by
 refine pB 11 Tryz.func279 ?_;exact(aB @ae.eq_1)<|(zC)<|(zK (wQ day p.since hd))<|(zR)<|zo [.cell 5 52]
abbrev UO(op:Int)(name value:List Nat)(n extra:Int)(kids:List aY):SV:=.ip [ab op,ah name,ah value,ab n,ab extra,.sl kids.length 6 (kids.flatMap aV)]
abbrev wN(op:Int)(name value:List Nat)(n extra:Int)(kids:List aY)(kb nb ob:Bool):Fm:=[(1,UO op name value n extra kids),(3,.ptr 0 0),(4,an kb),(5,an nb),(7,an ob)]
def JB(e:aY)(he:gB e):PC ac 130 [.ag (aV e)] (·=an (iO e)):=by
 cases he with
 | @mk op name value n extra kids hgn hgv hlen hks=>
 rw[gT]
 refine pB 147 Tryz.func130 ?_;refine(zV) ?_;refine zZ [(1,UO op name value n extra kids)] 0 rfl zG<|zA [(1,UO op name value n extra kids)] [] zH<|(nD)<|(nD)<|(zV)<|zA ((6,.fn 217 [] [])::(16,ab op)::wN op name value n extra kids (decide ((kids.length:Int)=0)) true true) [.cells [ab op,ah [],ah [],ab 0,ab 0,bH]] zH ?_
 (repeat refine aE.seq ?_)
 refine aE.mono (Q:=λex st=>(ex=.normal/\∃q,TQ (.mk op name value n extra kids)=some q/\Fg st ⟨wN op name value n extra kids q.kids q.named q.ok,147,[.cells [ab op,ah [],ah q.value,ab q.n,ab q.extra,bH]],[]⟩)\/(ex=.ret/\BJ ac Tryz.f130 (·=an (iO (.mk op name value n extra kids))) .ret st)) ?_ ?_
 ·refine aE.block ?_;cases o1:decide (op=1);rotate_left
  ·have p1:=ww o1
   refine(aB o1)<|(cK) ?_;exact .inl ⟨rfl,⟨decide ((kids.length:Int)=0),false,true,[],0,0⟩,by subst p1;rfl,zH⟩
  have n1:=wt o1
  refine(aB o1)<|(zN) ?_
  cases o2:decide (op=2);rotate_left
  ·have p2:=ww o2
   refine(aB o2)<|(zY)<|(zs) ?_;refine nw [0,1,3,7,0,31] ?_;refine(qx)<|(zM) ?_;exact .inl ⟨rfl,⟨decide ((kids.length:Int)=1),false,true,[],0,0⟩,by subst p2;rfl,zH⟩
  have n2:=wt o2
  refine(aB o2)<|(zN) ?_
  cases o3:decide (op=3);rotate_left
  ·have p3:=ww o3
   refine(aB o3)<|(zY)<|(zY)<|(zs) ?_;refine nw [0,1,3,7,0,31] ?_;refine(qx)<|(zM) ?_;exact .inl ⟨rfl,⟨decide (1<(kids.length:Int)),false,true,[],0,0⟩,by subst p3;rfl,zH⟩
  have n3:=wt o3
  refine(aB o3)<|(zN) ?_
  cases o4:decide (op=4);rotate_left
  ·have p4:=ww o4
   refine(aB o4)<|(zY)<|(zs) ?_;refine nw [0,1,3,7,0,31] ?_;refine(qx)<|(zM) ?_;exact .inl ⟨rfl,⟨decide (1<(kids.length:Int)),false,true,[],0,0⟩,by subst p4;rfl,zH⟩
  have n4:=wt o4
  refine(aB o4)<|(zN) ?_
  cases o5:decide (op=5);rotate_left
  ·have p5:=ww o5
   refine(aB o5)<|(zY) ?_
   cases g:Iw n 0
   ·have hc:=pj n 0;rw[g] at hc
    refine(zs) ?_;refine nw [0,1,0,4,0,0,32,112,240,496,496,1520,4080,8176,3,24563,57343,122879,262143] ?_;refine(qx)<|(yd (hc))<|(qx) ?_;refine SD.e ii rfl ii rfl rfl ii zl ?_;refine(qx) ?_;refine SD.e ii rfl ii rfl rfl ii zl ?_;refine(qx)<|(zM) ?_;exact .inl ⟨rfl,⟨decide ((kids.length:Int)=0),true,Iw n 0&&Iw extra 0,[],n,extra⟩,by subst p5;rfl,by rw[g];exact zH⟩
   ·have hc:=pj n 0;rw[g] at hc
    refine(zs) ?_;refine nw [0,1,0,4,0,0,32,112,240,496,496,1520,4080,8176,3,24563,57343,122879,262143] ?_;refine(qx)<|(yd (hc))<|(qx)<|(yd (pj extra 0))<|(qx) ?_;refine SD.e ii rfl ii rfl rfl ii zl ?_;refine(qx) ?_;refine SD.e ii rfl ii rfl rfl ii zl ?_;refine(qx)<|(zM) ?_;exact .inl ⟨rfl,⟨decide ((kids.length:Int)=0),true,Iw n 0&&Iw extra 0,[],n,extra⟩,by subst p5;rfl,by rw[g];exact zH⟩
  have n5:=wt o5
  refine(aB o5)<|(zN) ?_
  cases o6:decide (op=6);rotate_left
  ·have p6:=ww o6
   refine(aB o6)<|(zY)<|(zs) ?_;refine nw [0,1,0,0,8,28,3,127,255] ?_;refine(qx)<|(yd (pj n 0))<|(qx) ?_;refine SD.e ii rfl ii rfl rfl ii zl ?_;refine(qx)<|(zM) ?_;exact .inl ⟨rfl,⟨decide ((kids.length:Int)=0),true,Iw n 0,[],n,0⟩,by subst p6;rfl,zH⟩
  have n6:=wt o6
  refine(aB o6)<|(zN) ?_
  cases o7:decide (op=7);rotate_left
  ·have p7:=ww o7;cases g1:decide (value=[])
   ·cases g2:decide ((value.length:Int)<=200)
    ·refine(aB o7)<|(zY)<|(zs) ?_;refine nw [0,1,0,4,12,28,60,124,252,508,1020,2044,4092,8188,16380,32764,65532,3,163839,524287] ?_;refine(HW (bm g1 g2)) ?_;refine SD.e ii rfl ii rfl rfl ii zl ?_;refine(qx)<|(zM) ?_;exact .inl ⟨rfl,⟨decide ((kids.length:Int)=0),true,!(decide (value=[]))&&(decide ((value.length:Int)<=200)&&!(mF.contains name)),value,0,0⟩,by subst p7;rfl,by rw[g1,g2];exact zH⟩
    ·refine(aB o7)<|(zY)<|(zs) ?_;refine nw [0,1,0,4,12,28,60,124,252,508,1020,2044,4092,8188,16380,32764,65532,3,163839,524287] ?_;refine(HW (bm g1 g2))<|(yd (AQ name))<|(qx) ?_;refine SD.e ii rfl ii rfl rfl ii zl ?_;refine(qx)<|(zM) ?_;exact .inl ⟨rfl,⟨decide ((kids.length:Int)=0),true,!(decide (value=[]))&&(decide ((value.length:Int)<=200)&&!(mF.contains name)),value,0,0⟩,by subst p7;rfl,by rw[g1,g2];exact zH⟩
   ·refine(aB o7)<|(zY)<|(zs) ?_;refine nw [0,1,0,4,12,28,60,124,252,508,1020,2044,4092,8188,16380,32764,65532,3,163839,524287] ?_;refine(HW g1) ?_;refine SD.e ii rfl ii rfl rfl ii zl ?_;refine(qx)<|(zM) ?_;exact .inl ⟨rfl,⟨decide ((kids.length:Int)=0),true,!(decide (value=[]))&&(decide ((value.length:Int)<=200)&&!(mF.contains name)),value,0,0⟩,by subst p7;rfl,by rw[g1];exact zH⟩
  have n7:=wt o7
  refine(aB o7)<|(zN) ?_
  cases o8:decide (op=8);rotate_left
  ·have p8:=ww o8
   refine(aB o8)<|(zY) ?_;exact .inl ⟨rfl,⟨decide ((kids.length:Int)=0),true,true,[],0,0⟩,by subst p8;rfl,zH⟩
  have n8:=wt o8
  refine(aB o8)<|(zN) ?_
  cases o9:decide (op=9);rotate_left
  ·have p9:=ww o9
   refine(aB o9)<|(zY)<|(zs) ?_;refine nw [0,1,0,4,12,3,63,127] ?_;refine(qx)<|(yd (dZ value hgv))<|(qx) ?_;refine SD.e ii rfl ii rfl rfl ii zl ?_;refine(qx)<|(zM) ?_;exact .inl ⟨rfl,⟨decide ((kids.length:Int)=0),true,cN value,value,0,0⟩,by subst p9;rfl,zH⟩
  have n9:=wt o9
  refine(aB o9)<|(zN) ?_
  cases o10:decide (op=10);rotate_left
  ·have p10:=ww o10
   refine(aB o10)<|(zY)<|(zY)<|(zV) ?_;exact .inl ⟨rfl,⟨decide ((kids.length:Int)=1),true,true,[],0,0⟩,by subst p10;rfl,zH⟩
  have n10:=wt o10
  refine(aB o10)<|(zN) ?_
  cases o11:decide (op=11);rotate_left
  ·have p11:=ww o11
   refine(aB o11)<|(cK) ?_;exact .inl ⟨rfl,⟨decide ((kids.length:Int)=1),true,true,[],0,0⟩,by subst p11;rfl,zH⟩
  have n11:=wt o11
  refine(aB o11)<|(zN) ?_
  cases o12:decide (op=12);rotate_left
  ·have p12:=ww o12
   refine(aB o12)<|(zY)<|(zs) ?_;refine nw [0,1,0,0,8,28,3,127,255] ?_;refine(qx)<|(yd (pj n 1))<|(qx) ?_;refine SD.e ii rfl ii rfl rfl ii zl ?_;refine(qx)<|(zM) ?_;exact .inl ⟨rfl,⟨decide ((kids.length:Int)=0),true,Iw n 1,[],n,0⟩,by subst p12;rfl,zH⟩
  have n12:=wt o12
  refine(aB o12)<|(zN) ?_
  have hnone:iO (.mk op name value n extra kids)=false:=by
   unfold iO TQ;simp only[aY.op,n1,n2,n3,n4,n5,n6,n7,n8,n9,n10,n11,n12,if_false,or_self]
  refine(zV) ?_;refine aE.ret ?_;refine .inr ⟨rfl,?_⟩;exact zO [.tmp 2] (hq:=by (try simp only[eC,bK]);first | done | (rw[hnone]))
 rintro ex st (⟨rfl,q,hq,hf⟩ | ⟨rfl,hs⟩);rotate_left
 ·exact hs
 change aE _ _ _ _ _;refine aE.fg hf ?_;clear hf
 have hres:iO (.mk op name value n extra kids)=Gr q (.mk op name value n extra kids):=by unfold iO;rw[hq]
 rw[hres];clear hres hq;obtain⟨kb,nb,ob,v',n',x'⟩:=q;have hM:=dZ name hgn;rw[show Gr ⟨kb,nb,ob,v',n',x'⟩ (.mk op name value n extra kids)=((ob&&(!nb||cN name))&&(kb&&((nb||decide (name=[]))&&(decide (v'=value)&&(decide (n'=n)&&decide (x'=extra)))))) from rfl];refine(zV) ?_
 (repeat refine aE.seq ?_)
 refine aE.mono (Q:=λex st=>ex=.normal/\Fg st ⟨[(1,UO op name value n extra kids),(3,.ptr 0 0),(4,an kb),(7,an (ob&&(!nb||cN name)))],147,[.cells [ab op,ah (cond nb name []),ah v',ab n',ab x',bH]],[]⟩) ?_ ?_
 ·cases nb
  ·refine(zN) ?_;exact⟨rfl,by rw[show(ob&&(!false||cN name))=ob by cases ob<;>rfl];exact zH⟩
  ·cases ob
   ·refine(zY)<|(zs) ?_;refine nw [0,1,0,4,12,28,60,124,3,383,1023] ?_;refine(qx) ?_;refine SD.e ii rfl ii rfl rfl ii zl ?_;refine(qx)<|(zM) ?_;exact⟨rfl,zH⟩
   ·refine(zY)<|(zs) ?_;refine nw [0,1,0,4,12,28,60,124,3,383,1023] ?_;refine(qx)<|(yd (hM))<|(qx) ?_;refine SD.e ii rfl ii rfl rfl ii zl ?_;refine(qx)<|(zM) ?_;exact⟨rfl,zH⟩
 rintro ex st ⟨rfl,hf⟩;refine aE.fg hf ?_;clear hf;change aE _ _ _ _ _
 have hsame:(cond nb name []=name)↔(nb||decide (name=[]))=true:=by cases nb<;>simp[eq_comm]
 generalize (ob&&(!nb||cN name))=o1;cases o1
 ·exact(zV)<|zo [.tmp 2]
 cases kb
 ·exact(zV)<|zo [.tmp 2]
 cases g1:decide (cond nb name []=name)
 ·have e1:(nb||decide (name=[]))=false:=by
   cases h:(nb||decide (name=[]))
   ·rfl
   ·exact un (hsame.2 h) (wt g1)
  rw[e1]
  exact(aB g1)<|zo [.tmp 2]
 have e1:=hsame.1 (ww g1);rw[e1];cases g2:decide (v'=value)
 ·exact(aB (bm g1 g2))<|zo [.tmp 2]
 cases g3:decide (n'=n)
 ·exact(aB (cJ g1 g2 g3))<|zo [.tmp 2]
 ·exact(aB (cJ g1 g2 g3))<|zo [.tmp 2]
def cf(x:aY):aV x=[ab x.op,ah x.name,ah x.value,ab x.n,ab x.extra,.sl x.kids.length 6 (x.kids.flatMap aV)]:=by
 obtain⟨op,name,value,n,extra,kids⟩:=x;exact gT op name value n extra kids
def OK(op:Int)(name value:List Nat)(n extra:Int)(kids:List aY):fH (.mk op name value n extra kids)=.mk op name value n extra kids::kids.flatMap fH:=by
 rw[fH]
 congr 1
 induction kids with
 | nil=>rfl
 | cons k ks ih=>rw[mn,ih,flatMap_cons]
def Cl(p:aY->Bool)(e:aY):(fH e).all p=(p e&&e.kids.all λk=>(fH k).all p):=by
 obtain⟨op,name,value,n,extra,kids⟩:=e;rw[OK,List.all_cons,List.all_flatMap];rfl
variable{e:aY}
def gB.Ud(h:gB e):e.kids.length<=1000000/\∀k∈e.kids,gB k:=by
 cases h with
 | mk _ _ h1 h2=>exact⟨h1,h2⟩
def y9{k:aY}(h:k∈e.kids):SizeOf.sizeOf k<SizeOf.sizeOf e:=by
 obtain⟨op,name,value,n,extra,kids⟩:=e;have h1:=dc (show k∈kids from h)
 have h2:SizeOf.sizeOf (aY.mk op name value n extra kids)=1+SizeOf.sizeOf op+SizeOf.sizeOf name+SizeOf.sizeOf value+SizeOf.sizeOf n+SizeOf.sizeOf extra+SizeOf.sizeOf kids:=by simp
 omega
variable{fid:FuncId}{first:List SV}{cap:List SV}
def Ek{l:List aY}(p:aY->Bool)(hlen:l.length<=1000000)(hp:∀x∈l,PC ac fid ((first++[.ag (aV x)])++cap) (·=an (p x)))(hg:cj first=true/\cj cap=true):PC ac 274 [ao 6 l aV,.fn fid first cap] (·=ab (gf p l)):=by
 refine pB 19 func274 ?_;refine(aB @ao.eq_1)<|(zV)<|(zs) ?_;refine zL l (λk=>∀(i:Nat) y,i<k->l[i]?=some y->p y=false) (λk=>[(0,.sl l.length 6 (l.flatMap aV)),(1,.fn fid first cap),(7,ab l.length),(8,ab k)]) (λk=>[]) zH zp ?_;intro k hk hall;refine zT l k ?_ ?_;rintro rfl;rotate_left;intro x hx hlt;rotate_left
 ·exact(fo)<|(zV)<|zo [.tmp 4] (hq:=by rw[iC hall])
 ·have hpx0:=hp x (mem_iff_getElem?.2 ⟨k,hx⟩);have hxl:((l.flatMap aV).drop (k*6)).take 6=aV x:=aL jt hx;rw[cf x] at hxl hpx0
  refine(fw)<|(zV)<|(eQ (bm hlt hxl))<|(zK hpx0 (hwk:=((cA.refl hg.1).app zr).app (cA.refl hg.2))) ?_;refine aN.nil ?_
  change aE _ _ _ _ _;cases hpx:p x
  ·refine(zN)<|(aB (zi hlt hlen)) ?_;refine zX hlt zH ?_
   intro i y hi hy;by_cases hik:i=k
   ·subst hik;rw[hx] at hy;cases hy;exact hpx
   ·exact hall i y i4 hy
  ·exact(cK)<|zo [.tmp 4] (hq:=by rw[mb hx hpx hall])
def Eb{l:List (aY)}(p:aY->Bool)(hlen:l.length<=1000000)(hp:∀x∈l,PC ac fid ((first++[.ag (aV x)])++cap) (·=an (p x)))(hg:cj first=true/\cj cap=true):PC ac 215 [ao 6 l aV,.fn fid first cap] (·=an (l.any p)):=by
 refine pB 9 func215 ?_;exact(jC)<|(zK (Ek p hlen hp hg) (hwk:=.cons (Wk.sl _ _ _) (.cons (.fn (cA.refl hg.1) (cA.refl hg.2)) .nil)))<|(zR)<|zo [.tmp 4] (hq:=by rw[nM])
def JO(k:aY)(b:Bool)(ih:PC ac 129 [.ag (aV k),.fn 130 [] []] (·=an b)):PC ac 216 [.ag (aV k),.ip [.fn 130 [] []]] (·=an (!b)):=by
 refine pB 8 func216 ?_;rw[cf] at ih ⊢
 exact(jC)<|(zK ih)<|(zR)<|zo [.tmp 3]
def AY:∀(d:Nat) (e:aY),SizeOf.sizeOf e<d->gB e->PC ac 129 [.ag (aV e),.fn 130 [] []] (·=an ((fH e).all iO))
 | 0,e,hd,_=>un hd (co _)
 | d+1,e,hd,he=>by
  obtain⟨hlen,hks⟩:=he.Ud;have hn:=JB e he;have hcof:=Eb (λk=>!((fH k).all iO)) (l:=e.kids) (fid:=216) (first:=[]) (cap:=[.ip [.fn 130 [] []]]) hlen (λk hk=>JO k _ (AY d k (by have:=y9 hk;omega) (hks k hk))) ⟨rfl,rfl⟩
  have hr:(fH e).all iO=(iO e&&!(e.kids.any λk=>!((fH k).all iO))):=by
   rw[Cl,List.not_any_eq_all_not];simp
  rw[hr];refine pB 15 func129 ?_;rw[cf] at hn ⊢
  refine(zV) ?_;refine zZ [(2,.ip [ab e.op,ah e.name,ah e.value,ab e.n,ab e.extra,.sl e.kids.length 6 (e.kids.flatMap aV)]),(3,.ptr 1 0)] 0 rfl zG<|zZ [(2,.ip [ab e.op,ah e.name,ah e.value,ab e.n,ab e.extra,.sl e.kids.length 6 (e.kids.flatMap aV)]),(3,.ip [.fn 130 [] []])] 1 rfl zG<|zA [(2,.ip [ab e.op,ah e.name,ah e.value,ab e.n,ab e.extra,.sl e.kids.length 6 (e.kids.flatMap aV)]),(3,.ip [.fn 130 [] []])] [] zH<|(zC)<|(zK hn) ?_
  cases iO e
  ·exact(zR)<|zo [.tmp 4]
  ·exact(zQ)<|(zK hcof)<|(zR)<|zo [.tmp 4]
mutual
def l7:aY->Int->Int×Bool
 | .mk _ _ _ _ _ kids,n=>if n+1<=60 then pI kids (n+1) else (n+1,false)
def pI:List aY->Int->Int×Bool
 | [],n=>(n,true)
 | k::ks,n=>if (l7 k n).2=true then pI ks (l7 k n).1 else ((l7 k n).1,false)
end
def Qu(e:aY)(n:Int):l7 e n=if n+1<=60 then pI e.kids (n+1) else (n+1,false):=by
 obtain⟨op,name,value,m,extra,kids⟩:=e;rw[l7];rfl
def FU:List aY->Int->Int->Int
 | [],_,_ => -1
 | k::ks,n,j=>if (l7 k n).2=true then FU ks (l7 k n).1 (j+1) else j
mutual
def Dc:∀(e:aY) (n:Int),n<=60->(((l7 e n).2=true/\(l7 e n).1=n+(fH e).length/\n+(fH e).length<=60)\/((l7 e n).2=false/\(l7 e n).1=61/\60<n+(fH e).length))
 | .mk op name value m extra kids,n,hn=>by
  have ih:=Kc kids (n+1);rw[l7,fH,i7];split
  ·rename_i h
   rcases ih h with⟨h1,h2,h3⟩ | ⟨h1,h2,h3⟩
   ·exact .inl ⟨h1,by rw[h2];omega,by omega⟩
   ·exact .inr ⟨h1,h2,by omega⟩
  ·exact .inr ⟨rfl,by show n+1=61;omega,by omega⟩
def Kc:∀(l:List aY) (n:Int),n<=60->(((pI l n).2=true/\(pI l n).1=n+(mn l).length/\n+(mn l).length<=60)\/((pI l n).2=false/\(pI l n).1=61/\60<n+(mn l).length))
 | [],n,hn=>.inl ⟨rfl,by rw[pI,mn];simp,by rw[mn];simpa using hn⟩
 | k::ks,n,hn=>by
  have h:=Dc k n hn;rw[pI,mn,li]
  rcases h with⟨h1,h2,h3⟩ | ⟨h1,h2,h3⟩
  ·rw[ut h1]
   rcases Kc ks (l7 k n).1 i4 with⟨i1,i2,i3⟩ | ⟨i1,i2,i3⟩
   ·exact .inl ⟨i1,by rw[i2];omega,by omega⟩
   ·exact .inr ⟨i1,i2,by omega⟩
  ·rw[v6 (by rw[h1];decide)];exact .inr ⟨rfl,h2,by omega⟩
end
def NO(e:aY):decide ((l7 e 0).1<=60)=decide ((fH e).length<=60):=by
 rw[decide_eq_decide]
 rcases Dc e 0 g9 with⟨h1,h2,h3⟩ | ⟨h1,h2,h3⟩<;>omega
def Kq:∀(l:List aY) (n j:Int),0<=j->decide (0<=FU l n j)=!(pI l n).2
 | [],_,_,_=>rfl
 | k::ks,n,j,hj=>by
  rw[FU,pI];split
  ·exact Kq ks _ _ i4
  ·show decide (0<=j)=true;rw[wp];exact hj
def By(e:aY)(n:Int)(hn:0<=n/\n<=60):SC ac 214 [.ag (aV e),.ptr 0 0] [.cells [ab n]] [] (λr S'=>r=an (decide (n+1<=60))/\S'=[.cells [ab (n+1)]]):=by
 refine Pu 8 Tryz.func214 ?_;rw[cf]
 refine(zV)<|(aB (BM (P:=ac) (t:=3) (a:=n) (b:=1) i4))<|(zV)<|zA [(3,an (decide (n+1<=60))),(1000000,.ptr 0 0)] [.cells [ab (n+1)]] zH<|(zE) ?_;exact zP [.tmp 3]
def HI(k:aY)(n:Int)(q:Int×Bool)(ih:SC ac 129 [.ag (aV k),.fn 214 [] [.ptr 0 0]] [.cells [ab n]] [] (λr S'=>r=an q.2/\S'=[.cells [ab q.1]])):
 SC ac 216 [.ag (aV k),.ptr 0 0] [.cells [.fn 214 [] [.ptr 1 0]],.cells [ab n]] [] (λr S'=>r=an (!q.2)/\S'=[.cells [.fn 214 [] [.ptr 1 0]],.cells [ab q.1]]):=by
 refine Ss 8 func216 ?_;rw[cf] at ih ⊢
 refine(jC) ?_;refine zS [1] trivial ih ?_;refine(zR)<|zA [(3,an (!q.2)),(1000000,.ptr 0 0),(1000001,.ptr 1 0)] [.cells [.fn 214 [] [.ptr 1 0]],.cells [ab q.1]] zH<|(zE) ?_;exact zP [.tmp 3]
abbrev NA:SO:=.cells [.fn 214 [] [.ptr 1 0]]
def HZ(k:aY):Prop:=∀n:Int,0<=n/\n<=60->SC ac 129 [.ag (aV k),.fn 214 [] [.ptr 0 0]] [.cells [ab n]] [] (λr S'=>r=an (l7 k n).2/\S'=[.cells [ab (l7 k n).1]])
def MK(l:List aY)(n:Int)(hn:0<=n/\n<=60)(hlen:l.length<=1000000)(hkk:∀k∈l,HZ k):SC ac 274 [ao 6 l aV,.fn 216 [] [.ptr 0 0]] [NA,.cells [ab n]] [] (λr S'=>r=ab (FU l n 0)/\S'=[NA,.cells [ab (pI l n).1]]):=by
 refine Ss 19 func274 ?_;refine(aB @ao.eq_1)<|(zV)<|(zs) ?_;refine BF l (λk (v:Int)=>(0<=v/\v<=60)/\FU l n 0=FU (l.drop k) v k/\(pI l n).1=(pI (l.drop k) v).1) (λk v=>[(0,.sl l.length 6 (l.flatMap aV)),(1,.fn 216 [] [.ptr 0 0]),(7,ab l.length),(8,ab k),(1000000,.ptr 0 0),(1000001,.ptr 1 0)]) (λk v=>[NA,.cells [ab v]]) (n) zH (by exact⟨hn,rfl,rfl⟩) ?_;intro k v hk hall;refine zT l k ?_ ?_;rintro rfl;rotate_left;intro x hx hlt;rotate_left
 ·refine(fo)<|(zV) ?_
  rw[dt] at hall;refine(zE) ?_;exact zP [.tmp 4] (hq:=by (try simp only[eC,bK]);first | done | (rw[hall.2.1,hall.2.2];first | exact⟨rfl,rfl⟩ | exact⟨trivial,rfl⟩ | exact⟨rfl,trivial⟩ | exact⟨trivial,trivial⟩))
 rw[eZ hx,FU,pI] at hall;have hxl:((l.flatMap aV).drop (k*6)).take 6=aV x:=aL jt hx;have hw:=HI x v (l7 x v) (hkk x (ay hx) v hall.1);rw[cf x] at hxl hw
 refine(fw)<|(zV)<|(eQ (bm hlt hxl)) ?_;refine zS [0,1] trivial hw ?_;refine aN.nil ?_
 change aE _ _ _ _ _;have hok:=Dc x v hall.1.2;cases hc:(l7 x v).2
 ·rw[hc,v6 ct,v6 ct] at hall
  refine(cK)<|(zE) ?_;exact zP [.tmp 4] (hq:=by (try simp only[eC,bK]);first | done | (rw[hall.2.1,hall.2.2];first | exact⟨rfl,rfl⟩ | exact⟨trivial,rfl⟩ | exact⟨rfl,trivial⟩ | exact⟨trivial,trivial⟩))
 ·rw[hc,ut rfl,ut rfl] at hall;rw[hc] at hok
  have hb:0<=(l7 x v).1/\(l7 x v).1<=60:=by
   rcases hok with⟨_,h1,h2⟩ | ⟨h1,_⟩
   ·omega
   ·cases h1
  refine(zN)<|(aB (zi hlt hlen)) ?_;refine pw hlt ((l7 x v).1) zH (⟨hb,hall.2.1,hall.2.2⟩)
def MF(l:List aY)(n:Int)(hn:0<=n/\n<=60)(hlen:l.length<=1000000)(hkk:∀k∈l,HZ k):SC ac 215 [ao 6 l aV,.fn 216 [] [.ptr 0 0]] [NA,.cells [ab n]] [] (λr S'=>r=an (!(pI l n).2)/\S'=[NA,.cells [ab (pI l n).1]]):=by
 have hi:=MK l n hn hlen hkk;have hd:=Kq l n 0 (fi _);generalize FU l n 0=j at hi hd
 refine Ss 9 func215 ?_;refine(zV)<|(eQ @ao.eq_1) ?_;refine zS [0,1] trivial hi ?_;refine(cM hd)<|(zE) ?_;exact zP [.tmp 4]
def AX:∀(d:Nat) (e:aY),SizeOf.sizeOf e<d->gB e->HZ e
 | 0,e,hd,_=>un hd (co _)
 | d+1,e,hd,he=>by
  intro n hn;obtain⟨hlen,hks⟩:=he.Ud;have hst:=By e n hn;rw[Qu];refine Pu 15 func129 ?_;rw[cf] at hst ⊢
  refine(zV) ?_;refine zZ [(2,.ip [ab e.op,ah e.name,ah e.value,ab e.n,ab e.extra,.sl e.kids.length 6 (e.kids.flatMap aV)]),(3,.ptr 2 0),(1000000,.ptr 0 0)] 1 rfl zG<|zA [(2,.ip [ab e.op,ah e.name,ah e.value,ab e.n,ab e.extra,.sl e.kids.length 6 (e.kids.flatMap aV)]),(3,.ptr 2 0),(1000000,.ptr 0 0)] [.cells [ab n],.gone,.cells [.fn 214 [] [.ptr 0 0]]] zH ?_
  by_cases h60:n+1<=60
  ·rw[wl h60] at hst;rw[ut h60];have hcof:=MF e.kids (n+1) i4 hlen λk hk=>AX d k (by have:=y9 hk;omega) (hks k hk)
   refine(zC) ?_;refine zS [0] trivial hst ?_;refine(zQ) ?_;refine zS [2,0] trivial hcof ?_ (hc:=yc @ao.eq_1);refine(zR)<|zA [(4,an (pI e.kids (n+1)).2),(1000000,.ptr 0 0)] [.cells [ab (pI e.kids (n+1)).1]] (cg @not_not)<|(zE) ?_;exact zP [.tmp 4]
  ·rw[wd h60] at hst;rw[v6 h60]
   refine(zC) ?_;refine zS [0] trivial hst ?_;refine(zR)<|zA [(4,an false),(1000000,.ptr 0 0)] [.cells [ab (n+1)]] zH<|(zE) ?_;exact zP [.tmp 4]
def JJ(e:aY)(he:gB e):PC ac 128 [.ag (aV e)] (·=ab (l7 e 0).1):=by
 have hw:=AX _ e (ci _) he 0 ⟨by decide,by decide⟩;refine pB 8 Tryz.func128 ?_;rw[cf] at hw ⊢
 refine(zV) ?_;refine zZ [(1,.ip [ab e.op,ah e.name,ah e.value,ab e.n,ab e.extra,.sl e.kids.length 6 (e.kids.flatMap aV)])] 0 rfl zG<|zA [(1,.ip [ab e.op,ah e.name,ah e.value,ab e.n,ab e.extra,.sl e.kids.length 6 (e.kids.flatMap aV)])] [] zH<|(jC) ?_;refine zS [0] trivial hw ?_;exact(zR)<|(zV)<|zo [.tmp 2]
def xu(name kind:List Nat)(e:aY)(hn:fj name)(hk:fj kind)(he:gB e):PC ac 57 [.ag (ah name::ah kind::aV e)] (·=an (cN name&&(cN kind&&oh e))):=by
 have hs:=JJ e he;have hw:=AY _ e (ci _) he
 have hv:oh e=(decide ((l7 e 0).1<=60)&&(fH e).all iO):=by rw[NO];rfl
 rw[hv];generalize (fH e).all iO=w at hw;generalize (l7 e 0).1=m at hs;refine pB 22 Tryz.func57 ?_;rw[cf] at hs hw ⊢
 refine(zV) ?_;refine zZ [(1,.ip [ah name,ah kind,ab e.op,ah e.name,ah e.value,ab e.n,ab e.extra,.sl e.kids.length 6 (e.kids.flatMap aV)])] 0 rfl zG<|zA [(1,.ip [ah name,ah kind,ab e.op,ah e.name,ah e.value,ab e.n,ab e.extra,.sl e.kids.length 6 (e.kids.flatMap aV)])] [] zH<|(zC)<|(zK (dZ name hn)) ?_
 cases cN name
 ·exact(zR)<|zo [.tmp 2]
 refine(zQ)<|(zK (dZ kind hk)) ?_
 cases cN kind
 ·exact(zR)<|zo [.tmp 2]
 refine(zQ)<|(zK hs) ?_
 cases g:decide (m<=60)
 ·exact(cM g)<|zo [.tmp 2]
 exact(MY g)<|(zK hw)<|(zR)<|zo [.tmp 2]
def vt(x:ak):List ak->List ak
 | []=>[x]
 | y::l=>if fF y.name x.name=true then y::vt x l else if y.name=x.name then x::l else x::y::l
def nV(x:ak):∀l:List ak,cy l x=vt x l
 | []=>by simp[cy,nS,gz,vt]
 | y::l=>by
  have ih:=nV x l;unfold cy nS at ih ⊢;rw[vt,fy];split
  ·rename_i h
   have e:gz (y::l) x.name (g8 (y::es (λp=>fF p.name x.name) l))=gz l x.name (es (λp=>fF p.name x.name) l).length:=by
    unfold gz;rw[i7,cp]
   rw[e,i7,f7,fN,fm,dl];split at ih<;>rename_i hf
   ·rw[ut hf,ih]
   ·rw[v6 hf,ih]
  ·rename_i h;rw[i5];unfold gz;simp only[el,set_cons_zero,take_zero,drop_zero,nil_append,wp]
section
variable (A:List Nat->Bool)
variable {A}
def Kt{x:ak}:∀{l:List ak},eu (l.map ak.name)=true->eu ((vt x l).map ak.name)=true/\∀p∈vt x l,p=x\/p∈l
 | [],_=>⟨rfl,λp hp=>by rw[vt,f5] at hp;exact .inl hp⟩
 | y::l,ho=>by
  obtain⟨i1,i2⟩:=Kt (x:=x) (l:=l) (iJ ho);have hlt:=nR (a:=y.name) (l:=l.map ak.name) ho
  have cons:∀{a:ak} {r:List ak},(∀p∈r,fF a.name p.name=true)->eu (r.map ak.name)=true->eu ((a::r).map ak.name)=true:=by
   intro a r h1 h2
   cases r with
   | nil=>rfl
   | cons b r=>
    rw[cc,cc,eu,aj];exact⟨h1 b be,by rw[cc] at h2;exact h2⟩
  rw[vt];split
  ·rename_i h;refine⟨cons (λp hp=>?_) i1,λp hp=>?_⟩
   ·rcases i2 p hp with rfl | hp
    ·exact h
    ·exact hlt _ (bh hp)
   ·rcases t7 hp with rfl | hp
    ·exact .inr be
    ·exact(i2 p hp).imp id (ba _)
  ·rename_i h;split
   ·rename_i e;refine⟨cons (λp hp=>by rw[<-e];exact hlt _ (bh hp)) (iJ ho),λp hp=>?_⟩
    rcases t7 hp with rfl | hp
    ·exact .inl rfl
    ·exact .inr (ba _ hp)
   ·rename_i e
    have hxy:fF x.name y.name=true:=by
     rcases jV x.name y.name with k | k | k
     ·exact k
     ·exact un k.symm e
     ·exact un k h
    refine⟨cons (λp hp=>?_) ho,λp hp=>?_⟩
    ·rcases t7 hp with rfl | hp
     ·exact hxy
     ·exact fG hxy (hlt _ (bh hp))
    ·rcases t7 hp with rfl | hp
     ·exact .inl rfl
     ·exact .inr hp
def J1(name:List Nat):∀(l:List ak) (i:Nat) (m:List (List Nat×Int)),(dA name (nv i m l)=(dA name m||(bE l name).isSome))/\(dA name m=true->getM 0 name (nv i m l)=getM 0 name m)/\
 (dA name m=false->(bE l name).isSome=true->∃k,getM 0 name (nv i m l)=((i+k:Nat):Int)/\l[k]?=bE l name)
 | [],i,m=>⟨by rw[nv];simp[bE],λ_=>rfl,λ_ h=>by simp[bE] at h⟩
 | p::l,i,m=>by
  obtain⟨a1,a2,a3⟩:=J1 name l (i+1) (if dA p.name m=true then m else cC p.name i m)
  have hf:bE (p::l) name=if p.name=name then some p else bE l name:=by
   unfold bE;rw[ch];by_cases e:p.name=name
   ·rw[ut e,wl e]
   ·rw[v6 e,wd e]
  have hh:dA name (if dA p.name m=true then m else cC p.name (i:Int) m)=(dA name m||decide (p.name=name)):=by
   split
   ·rename_i h;by_cases e:p.name=name
    ·rw[<-e,h];simp
    ·simp[e]
   ·rw[qN,Bool.or_comm]
    congr 1
    by_cases e:p.name=name
    ·rw[wl e,wl e.symm]
    ·rw[wd e,wd λh=>e h.symm]
  rw[nv];refine⟨?_,λh=>?_,λh h2=>?_⟩
  ·rw[a1,hh,hf];by_cases e:p.name=name
   ·simp[e]
   ·simp[e]
  ·rw[a2 (by rw[hh,h];rfl)];split
   ·rfl
   ·rename_i hp;rw[ll,v6];intro e;rw[<-e,h] at hp;exact hp rfl
  ·by_cases e:p.name=name
   ·refine⟨0,?_,?_⟩
    ·rw[a2 (by rw[hh,wl e,Bool.or_true]),e,h,v6 ct,ll,ut rfl];rfl
    ·rw[hf,ut e];rfl
   ·rw[hf,v6 e] at h2 ⊢;obtain⟨k,k1,k2⟩:=a3 (by rw[hh,h,wd e];rfl) h2;exact⟨k+1,by rw[k1];congr 1;omega,by rw[cp];exact k2⟩
def oO(ps:List ak)(name:List Nat):pO ps (nv 0 [] ps) name=bE ps name:=by
 obtain⟨a1,_,a3⟩:=J1 name ps 0 [];unfold pO;rw[a1];cases h:(bE ps name).isSome
 ·rw[show(dA name ([]:List (List Nat×Int))||false)=false from rfl,v6 ct]
  cases hf:bE ps name with
  | none=>rfl
  | some x=>rw[hf] at h;cases h
 ·obtain⟨k,k1,k2⟩:=a3 rfl h;rw[show(dA name ([]:List (List Nat×Int))||true)=true from rfl,ut rfl,k1,hG,f3,k2]
end
def HO(q:(Int×Int)×Int):SV:=.cx [.ag [ab q.1.1,ab q.1.2],ab q.2]
abbrev wV(p:ak)(cur:List Nat)(day:Int):Fm:=[(1,ah cur),(2,ab day),(3,.ip (ae p)),(6,.ptr 1 0),(7,ab 0)]
def HC(p:ak)(day:Int):PC ac 136 [.ag (ae p),ah [107,109],ab day] (·=HO (dm p [107,109] day)):=by
 have hq:dm p [107,109] day=if day<0\/40000<day then (((0,0):Int×Int),(13:Int)) else ((p.l1,p.l2),0):=rfl
 refine pB 32 dE ?_;refine(aB @ae.eq_1) ?_;refine zZ (wV p [107,109] day) 0 rfl (gE @ae.eq_1) ?_
 (try change aE _ _ _ _ _)
 have hg:getM (uC (.ej)) [107,109] nA=.fn 276 [] []:=rfl;have hh:dA [107,109] nA=true:=rfl
 refine(zC)<|(zK kO (hfl:=.inr zr)) ?_;refine aN.r0 ii (by simp only[cY,bP,ao,aF,m7,m6,↓reduceIte,aa,al,ap,af,am,aq,aA,bD,kQ (l:=nA) [107,109],hg,hh];first | done | rfl) ?_;refine(zB)<|(CP) ?_
 cases d1:decide (day<0);rotate_left
 ·exact(aB d1)<|(cK)<|kn [.cell 6 52,.tmp 7] (hq:=by rw[hq,ut (.inl (ww d1))];rfl)
 cases d2:decide (40000<day);rotate_left
 ·exact(aB (bm d1 d2))<|(cK)<|kn [.cell 6 52,.tmp 7] (hq:=by rw[hq,ut (.inr (ww d2))];rfl)
 have h1:0<=day:=by have:=wt d1;omega
 have h2:day<=40000:=by have:=wt d2;omega
 exact(aB (bm d1 d2))<|(zN)<|(eQ (bm @ae.eq_1 @C9.eq_1))<|(zK (PI p day))<|(zR)<|kn [.cell 6 52,.tmp 7] (hq:=by rw[hq,v6 i4];rfl)
def HE(p:ak)(day:Int):PC ac 136 [.ag (ae p),ah [99,121,99,108,101,115],ab day] (·=HO (dm p [99,121,99,108,101,115] day)):=by
 have hq:dm p [99,121,99,108,101,115] day=if day<0\/40000<day then (((0,0):Int×Int),(13:Int)) else ((p.l3,p.l4),0):=rfl
 refine pB 32 dE ?_;refine(aB @ae.eq_1) ?_;refine zZ (wV p [99,121,99,108,101,115] day) 0 rfl (gE @ae.eq_1) ?_
 (try change aE _ _ _ _ _)
 have hg:getM (uC (.ej)) [99,121,99,108,101,115] nA=.fn 277 [] []:=rfl;have hh:dA [99,121,99,108,101,115] nA=true:=rfl
 refine(zC)<|(zK kO (hfl:=.inr zr)) ?_;refine aN.r0 ii (by simp only[cY,bP,ao,aF,m7,m6,↓reduceIte,aa,al,ap,af,am,aq,aA,bD,kQ (l:=nA) [99,121,99,108,101,115],hg,hh];first | done | rfl) ?_;refine(zB)<|(CP) ?_
 cases d1:decide (day<0);rotate_left
 ·exact(aB d1)<|(cK)<|kn [.cell 6 52,.tmp 7] (hq:=by rw[hq,ut (.inl (ww d1))];rfl)
 cases d2:decide (40000<day);rotate_left
 ·exact(aB (bm d1 d2))<|(cK)<|kn [.cell 6 52,.tmp 7] (hq:=by rw[hq,ut (.inr (ww d2))];rfl)
 have h1:0<=day:=by have:=wt d1;omega
 have h2:day<=40000:=by have:=wt d2;omega
 exact(aB (bm d1 d2))<|(zN)<|(eQ (bm @ae.eq_1 @C9.eq_1))<|(zK (PE p day))<|(zR)<|kn [.cell 6 52,.tmp 7] (hq:=by rw[hq,v6 i4];rfl)
def HF(p:ak)(day:Int):PC ac 136 [.ag (ae p),ah [100,97,109,97,103,101],ab day] (·=HO (dm p [100,97,109,97,103,101] day)):=by
 have hq:dm p [100,97,109,97,103,101] day=if day<0\/40000<day then (((0,0):Int×Int),(13:Int)) else ((p.l5,p.l6),0):=rfl
 refine pB 32 dE ?_;refine(aB @ae.eq_1) ?_;refine zZ (wV p [100,97,109,97,103,101] day) 0 rfl (gE @ae.eq_1) ?_
 (try change aE _ _ _ _ _)
 have hg:getM (uC (.ej)) [100,97,109,97,103,101] nA=.fn 278 [] []:=rfl;have hh:dA [100,97,109,97,103,101] nA=true:=rfl
 refine(zC)<|(zK kO (hfl:=.inr zr)) ?_;refine aN.r0 ii (by simp only[cY,bP,ao,aF,m7,m6,↓reduceIte,aa,al,ap,af,am,aq,aA,bD,kQ (l:=nA) [100,97,109,97,103,101],hg,hh];first | done | rfl) ?_;refine(zB)<|(CP) ?_
 cases d1:decide (day<0);rotate_left
 ·exact(aB d1)<|(cK)<|kn [.cell 6 52,.tmp 7] (hq:=by rw[hq,ut (.inl (ww d1))];rfl)
 cases d2:decide (40000<day);rotate_left
 ·exact(aB (bm d1 d2))<|(cK)<|kn [.cell 6 52,.tmp 7] (hq:=by rw[hq,ut (.inr (ww d2))];rfl)
 have h1:0<=day:=by have:=wt d1;omega
 have h2:day<=40000:=by have:=wt d2;omega
 exact(aB (bm d1 d2))<|(zN)<|(eQ (bm @ae.eq_1 @C9.eq_1))<|(zK (PF p day))<|(zR)<|kn [.cell 6 52,.tmp 7] (hq:=by rw[hq,v6 i4];rfl)
def HG(p:ak)(day:Int):PC ac 136 [.ag (ae p),ah [100,97,121,115],ab day] (·=HO (dm p [100,97,121,115] day)):=by
 have hq:dm p [100,97,121,115] day=if day<0\/40000<day then (((0,0):Int×Int),(13:Int)) else ((gD day p.since,gD day p.since),0):=rfl
 refine pB 32 dE ?_;refine(aB @ae.eq_1) ?_;refine zZ (wV p [100,97,121,115] day) 0 rfl (gE @ae.eq_1) ?_
 (try change aE _ _ _ _ _)
 have hg:getM (uC (.ej)) [100,97,121,115] nA=.fn 279 [] [C9]:=rfl;have hh:dA [100,97,121,115] nA=true:=rfl
 refine(zC)<|(zK kO (hfl:=.inr zr)) ?_;refine aN.r0 ii (by simp only[cY,bP,ao,aF,m7,m6,↓reduceIte,aa,al,ap,af,am,aq,aA,bD,kQ (l:=nA) [100,97,121,115],hg,hh];first | done | rfl) ?_;refine(zB)<|(CP) ?_
 cases d1:decide (day<0);rotate_left
 ·exact(aB d1)<|(cK)<|kn [.cell 6 52,.tmp 7] (hq:=by rw[hq,ut (.inl (ww d1))];rfl)
 cases d2:decide (40000<day);rotate_left
 ·exact(aB (bm d1 d2))<|(cK)<|kn [.cell 6 52,.tmp 7] (hq:=by rw[hq,ut (.inr (ww d2))];rfl)
 have h1:0<=day:=by have:=wt d1;omega
 have h2:day<=40000:=by have:=wt d2;omega
 exact(aB (bm d1 d2))<|(zN)<|(eQ (bm @ae.eq_1 @C9.eq_1))<|(zK (Jf p day ⟨h1,h2⟩))<|(zR)<|kn [.cell 6 52,.tmp 7] (hq:=by rw[hq,v6 i4];rfl)
def HH(p:ak)(day:Int):PC ac 136 [.ag (ae p),ah [97,103,101],ab day] (·=HO (dm p [97,103,101] day)):=by
 have hq:dm p [97,103,101] day=if day<0\/40000<day then (((0,0):Int×Int),(13:Int)) else ((gD day p.made,gD day p.made),0):=rfl
 refine pB 32 dE ?_;refine(aB @ae.eq_1) ?_;refine zZ (wV p [97,103,101] day) 0 rfl (gE @ae.eq_1) ?_
 (try change aE _ _ _ _ _)
 have hg:getM (uC (.ej)) [97,103,101] nA=.fn 280 [] [C9]:=rfl;have hh:dA [97,103,101] nA=true:=rfl
 refine(zC)<|(zK kO (hfl:=.inr zr)) ?_;refine aN.r0 ii (by simp only[cY,bP,ao,aF,m7,m6,↓reduceIte,aa,al,ap,af,am,aq,aA,bD,kQ (l:=nA) [97,103,101],hg,hh];first | done | rfl) ?_;refine(zB)<|(CP) ?_
 cases d1:decide (day<0);rotate_left
 ·exact(aB d1)<|(cK)<|kn [.cell 6 52,.tmp 7] (hq:=by rw[hq,ut (.inl (ww d1))];rfl)
 cases d2:decide (40000<day);rotate_left
 ·exact(aB (bm d1 d2))<|(cK)<|kn [.cell 6 52,.tmp 7] (hq:=by rw[hq,ut (.inr (ww d2))];rfl)
 have h1:0<=day:=by have:=wt d1;omega
 have h2:day<=40000:=by have:=wt d2;omega
 exact(aB (bm d1 d2))<|(zN)<|(eQ (bm @ae.eq_1 @C9.eq_1))<|(zK (ME p day ⟨h1,h2⟩))<|(zR)<|kn [.cell 6 52,.tmp 7] (hq:=by rw[hq,v6 i4];rfl)
def wY(p:ak)(cur:List Nat)(day:Int):PC ac 136 [.ag (ae p),ah cur,ab day] (·=HO (dm p cur day)):=by
 by_cases c0:cur=[107,109]
 ·subst c0;exact HC p day
 by_cases c1:cur=[99,121,99,108,101,115]
 ·subst c1;exact HE p day
 by_cases c2:cur=[100,97,109,97,103,101]
 ·subst c2;exact HF p day
 by_cases c3:cur=[100,97,121,115]
 ·subst c3;exact HG p day
 by_cases c4:cur=[97,103,101]
 ·subst c4;exact HH p day
 have hq:dm p cur day=((0,0),15):=by
  unfold dm;simp only[c0,c1,c2,c3,c4,if_false]
 refine pB 32 dE ?_;refine(aB @ae.eq_1) ?_;refine zZ (wV p cur day) 0 rfl (gE @ae.eq_1) ?_
 (try change aE _ _ _ _ _)
 have hk:nA.map (·.1)=[[107,109],[99,121,99,108,101,115],[100,97,109,97,103,101],[100,97,121,115],[97,103,101]]:=rfl
 have hh:dA cur nA=false:=by
  cases h:dA cur nA
  ·rfl
  ·rw[lu,hk] at h;simp[c0,c1,c2,c3,c4] at h
 have hg:getM (uC (.ej)) cur nA=uC (.ej):=yR hh
 refine(zC)<|(zK kO (hfl:=.inr zr)) ?_;refine aN.r0 ii (by simp only[cY,bP,ao,aF,m7,m6,↓reduceIte,aa,al,ap,af,am,aq,aA,bD,kQ (l:=nA) cur,hg,hh];first | done | rfl) ?_;exact(zB)<|(xw)<|(zV)<|kn [.cell 6 52,.tmp 7] (hq:=by rw[hq];rfl)
def Ol:Sz ps (nv 0 [] ps):=C3 ge (EW ps)
def EI(ps:List ak)(part:List Nat)(hlen:ps.length<=1000000):PC ac 58 [.ag [ao 14 ps ae],ah part] (·=ah (K2 ps part)):=by
 refine pB 30 Tryz.func58 ?_;have hof:=rW ps hlen;unfold CO at hof
 refine(zV) ?_;refine zZ [(1,ah part),(2,.ip [ao 14 ps ae])] 0 rfl (gE @ao.eq_1)<|zA [(1,ah part),(2,.ip [ao 14 ps ae])] [] zH<|(zC)<|(zK hof (hfl:=.inr zr))<|(zR) ?_;refine zZ [(1,ah part),(2,.ip [ao 14 ps ae]),(5,.ip [ao 14 ps ae,mc AV.str ab (nv 0 [] ps)])] 0 rfl (gE @ao.eq_1)<|zA [(1,ah part),(2,.ip [ao 14 ps ae]),(5,.ip [ao 14 ps ae,mc AV.str ab (nv 0 [] ps)])] [] zH<|(zV)<|(zs) ?_;refine BF ps (λk (pt:List Nat)=>K2 ps part=qY ps (ps.length-k) pt) (λk pt=>[(1,ah pt),(2,.ip [ao 14 ps ae]),(5,.ip [ao 14 ps ae,mc AV.str ab (nv 0 [] ps)]),(12,ab ps.length),(13,ab k)]) (λk pt=>[]) (part) zH ii ?_;intro k pt hk hall;refine zT ps k ?_ ?_;rintro rfl;rotate_left;intro x hx hlt;rotate_left
 ·exact(fo)<|(zV)<|zo [.tmp 4] (hq:=by rw[hall,dd];rfl)
 have hget:=nr ps (nv 0 [] ps) pt Ol;rw[oO] at hget
 have hstep:qY ps (ps.length-k) pt=match bE ps pt with
  | none=>[]
  | some p=>if p.aT=[] then pt else qY ps (ps.length-(k+1)) p.aT:=by
  rw[show ps.length-k=ps.length-(k+1)+1 by omega];rfl
 refine(fw)<|(zC) ?_;refine aN.k ii rfl rfl ii rfl zc (hget) (zw) (.inr (cA.refl (by cases bE ps pt<;>rfl))) ?_
 cases hf:bE ps pt with
 | none=>
  rw[hf] at hstep
  exact(cM (cJ @jf.eq_1 @ae.eq_1 @ak.zero.eq_1))<|(xw)<|(zV)<|zo [.tmp 4] (hq:=by rw[hall,hstep])
 | some p=>
  rw[hf] at hstep
  refine(cM (bm @jf.eq_1 @ae.eq_1))<|(CP) ?_
  cases hi:decide (p.aT=[])
  ·rw[show(match some p with | none=>[] | some p=>if p.aT=[] then pt else qY ps (ps.length-(k+1)) p.aT)=qY ps (ps.length-(k+1)) p.aT from v6 (wt hi)] at hstep
   refine(aB hi)<|(lD)<|(aB (zi hlt hlen)) ?_;refine pw hlt (p.aT) zH (by rw[hall,hstep])
  ·rw[show(match some p with | none=>[] | some p=>if p.aT=[] then pt else qY ps (ps.length-(k+1)) p.aT)=pt from ut (ww hi)] at hstep
   exact(aB hi)<|(cK)<|zo [.tmp 4] (hq:=by rw[hall,hstep])
def lT(d:List Nat->Bool)(l:List (List Nat)):List (List Nat):=l.filter λx=>!d x
def B9{d:List Nat->Bool}{l:List (List Nat)}(h:∀x∈l,d x=false):lT d l=l:=by
 unfold lT;rw[fx];intro x hx;rw[h x hx];rfl
def yZ{d:List Nat->Bool}{l:List (List Nat)}{j:Nat}{x:List Nat}(h:l[j]?=some x):lT d (l.take (j+1))=lT d (l.take j)++(if d x=true then [] else [x]):=by
 unfold lT;rw[cq h,f4];cases hd:d x<;>simp[hd]
def Ar(l:List (List Nat)):(l.flatMap (aD ah)).length=l.length:=Rj l
def KO:∀n,(rep [AV.str []] n).map SV.a=(em n ([]:List Nat)).flatMap (aD ah)
 | 0=>rfl
 | n+1=>by rw[rep,d6,KO n,List.replicate_succ,flatMap_cons];rfl
def Cv:∀n,(rep [AV.str []] n).all ki=true
 | 0=>rfl
 | n+1=>by rw[rep,e4,Cv n];rfl
def OS(l:List (List Nat))(i:Nat):(l.flatMap (aD ah)).take i=(l.take i).flatMap (aD ah):=by
 rw[rR,rR,List.map_take]
def G7(g:FuncId)(caps:List SV)(hg:cj caps=true)(d:List Nat->Bool)(hp:∀x,PC ac g ([ah x]++caps) (·=an (d x)))(l:List (List Nat))(hlen:l.length<=100000):
 SC ac 224 [.buf 0 l.length 1 none,.fn g [] caps] [.cells (l.flatMap (aD ah))] [] (λr S'=>r=.buf 0 (lT d l).length 1 none/\S'=[.cells ((lT d l++em (l.length-(lT d l).length) []).flatMap (aD ah))]):=by
 have hidx:=q8 (l:=l) d (fid:=g) (first:=[]) (cap:=caps) i4 (λx hx=>hp x) ⟨rfl,hg⟩;have hkc:∀(o:Nat) (l:List (List Nat)),(l.flatMap (aD ah)).map (aP o)=l.flatMap (aD ah):=λo l=>bp (enc:=aD ah) gc o l;have hk2:∀o:Nat,caps.map (aP o)=caps:=λo=>bV hg;have hn2:∀o:Nat,eI o caps=false:=λo=>cm hg
 refine Pu 42 func224 ?_;refine(aB (bm hk2 hn2))<|(eQ (bm hk2 hn2))<|(zK hidx (hwk:=.cons (.buf rfl (by rw[dU (enc:=aD ah) (e:=1) gc];exact cA.refl (aC (λ_=>rfl) l)) (by rw[aU (enc:=aD ah) (e:=1) gc];exact bb _)) (.cons (.fn .nil (cA.refl hg)) .nil)))<|(cM (bm hk2 hn2)) ?_
 by_cases hno:gf d l = -1
 ·have hall:=B2 hno;rw[hno]
  refine(xw)<|(zV)<|(zE) ?_;exact zP [.tmp 4] (hq:=by (try simp only[eC,bK]);first | done | (rw[B9 hall,dd,List.replicate_zero,bv];first | exact⟨rfl,rfl⟩ | exact⟨trivial,rfl⟩ | exact⟨rfl,trivial⟩ | exact⟨trivial,trivial⟩))
 obtain⟨k,x0,hk,hx0,hd0,hbef⟩:=B1 hno;rw[hk];have hkl:k<l.length:=bo hx0
 refine(aB (show decide ((k:Int) = -1)=false by simp only[wn];omega))<|(zN)<|(aB (BM (show -9223372036854775808<=(k:Int)+1/\(k:Int)+1<=9223372036854775807 from⟨by omega,by omega⟩))) ?_
 have hst:lT d (l.take (k+1))=l.take k:=by
  rw[yZ hx0,ut hd0,bv];refine B9 λx hx=>?_;obtain⟨i,hi⟩:=mem_iff_getElem?.1 hx
  have hik:i<k:=by
   have:=bo hi;rw[bk] at this;omega
  rw[d9,ut hik] at hi;exact hbef i x hik hi
 (repeat refine aE.seq ?_)
 refine aE.block (aE.loop (λm st=>∃(j i:Nat) (q:List (List Nat)),(i<j/\j<=l.length/\q.length=l.length)/\(q.take i=lT d (l.take j)/\q.drop j=l.drop j)/\l.length-j=m/\st=⟨[(0,.buf 0 l.length 1 none),(1,.fn g [] caps),(5,qT i),(6,qT j),(1000000,.ptr 0 0)],42,[.cells (q.flatMap (aD ah))],[]⟩) (l.length-(k+1)) (cg @fU) ⟨k+1,k,l,⟨ci _,hkl,rfl⟩,⟨hst.symm,rfl⟩,rfl,rfl⟩ (by rintro m st ⟨j,i,q,_,_,_,rfl⟩;rfl) ?_);rintro m st ⟨j,i,q,⟨hij,hjl,hql⟩,⟨htk,hdr⟩,rfl,rfl⟩
 have hcl:(q.flatMap (aD ah)).length=l.length:=by rw[Ar,hql]
 refine(zV) ?_;by_cases hlt:j<l.length;rotate_left
 ·rw[show decide ((j:Int)<(l.length:Int))=false by simp only[wn];omega]
  obtain rfl:j=l.length:=by omega
  rw[bF] at htk;refine(fo) ?_
  have hkl2:(lT d l).length=i:=by rw[<-htk,bk];omega
  have hrest:(q.flatMap (aD ah)).take i++((rep [AV.str []] (l.length-i)).map SV.a++(q.flatMap (aD ah)).drop (i+(l.length-i)))=(lT d l++em (l.length-(lT d l).length) []).flatMap (aD ah):=by
   rw[hkl2,KO,OS,htk,bi (by rw[hcl];omega),bv,b8]
  refine(aB (EY (Lm (show i<=l.length by omega)) (show ¬(l.length-i=0) by omega) @b9 (show i+(l.length-i)<=l.length by omega) hcl @Cv hrest))<|(aB (bm (SM (show i<=l.length by omega)) @Nat.sub_zero))<|(zE) ?_;exact zP [.tmp 4] (hq:=by (try simp only[eC,bK]);first | done | (rw[hkl2];first | exact⟨rfl,rfl⟩ | exact⟨trivial,rfl⟩ | exact⟨rfl,trivial⟩ | exact⟨trivial,trivial⟩))
 rw[show decide ((j:Int)<(l.length:Int))=true by simp only[wp];omega];obtain⟨x,hx⟩:∃x,l[j]?=some x:=⟨l[j],jp hlt⟩
 have hqx:q[j]?=some x:=by
  have:(q.drop j)[0]?=(l.drop j)[0]?:=by rw[hdr]
  rw[d8,d8,bw] at this;rw[this,hx]
 have hdr2:q.drop (j+1)=l.drop (j+1):=by
  have:=rc (List.drop 1) hdr;rw[g7,g7] at this;exact this
 have hsn:=yZ (d:=d) hx;have ax:=Ti (c:=ah) hqx;have hpx:=hp x
 refine(fw)<|(aB (vc hlt hcl @b9 (show j+1<=l.length by omega) ax hkc))<|(zC)<|(zK hpx (hwk:=.cons (.a _) (cA.refl hg))) ?_
 cases hd:d x
 ·have hil:i<q.length:=by omega
  have s1:=OT (c:=ah) (l:=q) (i:=i) x hil;rw[hd,v6 g9] at hsn
  refine(zR)<|(zY)<|(aB (kY (show i<l.length by omega) hcl @b9 (show i+1<=l.length by omega) s1))<|(aB (BM (show -9223372036854775808<=(i:Int)+1/\(i:Int)+1<=9223372036854775807 from⟨by omega,by omega⟩)))<|(aB (BM (show -9223372036854775808<=(j:Int)+1/\(j:Int)+1<=9223372036854775807 from⟨by omega,by omega⟩))) ?_;refine⟨l.length-(j+1),_,by omega,(cg @fU),j+1,i+1,q.set i x,⟨by omega,by omega,by rw[e5,hql]⟩,⟨?_,?_⟩,rfl,rfl⟩
  ·rw[hsn,<-htk,cl,ut hil,gd,bk,dv i4,List.take_take,Nat.min_eq_right i4,show i+1-i=1 by omega];rfl
  ·rw[List.drop_set,ut i4];exact hdr2
 ·rw[hd,ut rfl,bv] at hsn
  refine(zR)<|(zN)<|(aB (BM (show -9223372036854775808<=(j:Int)+1/\(j:Int)+1<=9223372036854775807 from⟨by omega,by omega⟩))) ?_;exact⟨l.length-(j+1),_,by omega,(cg @fU),j+1,i,q,⟨by omega,by omega,hql⟩,⟨by rw[hsn,htk],hdr2⟩,rfl,rfl⟩
abbrev Bc(e:aY):SV:=.ip [ab e.op,ah e.name,ah e.value,ab e.n,ab e.extra,.sl e.kids.length 6 (e.kids.flatMap aV)]
def AM(ps:List ak)(day:Int)(name kind:List Nat)(hlen:ps.length<=1000000):PC ac 225 [ah name,.ip [ao 14 ps ae,ab day],.ip [ah kind]] (·=an (!(decide ((da ps name).kind=kind)))):=by
 have hf:=gn ps name hlen;refine pB 18 Tryz.func225 ?_
 have ho:∃b,jf ae ak.zero (bE ps name)=.cx [.ag (ae (da ps name)),an b]:=by
  unfold da
  cases bE ps name with
  | none=>exact⟨false,rfl⟩
  | some p=>exact⟨true,rfl⟩
 obtain⟨b,ho⟩:=ho;rw[ho] at hf;generalize da ps name=p at hf
 exact(jC)<|(zK hf (hfl:=.inr zr))<|(cM @ae.eq_1)<|(zV)<|zo [.tmp 4]
def MH(x:bC)(e:aY):PC ac 141 [.ag (aI x),Bc e] (·=an (decide (x.key=e.name))):=by
 refine pB 9 Tryz.func141 ?_;exact(aB @aI.eq_1)<|(zV)<|zo [.tmp 3]
def Jn(q:ak)(part:List Nat)(e:aY):PC ac 142 [.ag (ae q),.ip [ah part],Bc e] (·=an (decide (q.aT=part)&&(decide (q.slot=e.name)&&decide (q.kind=e.value)))):=by
 refine pB 23 Tryz.func142 ?_;refine(aB @ae.eq_1) ?_;cases g1:decide (q.aT=part)
 ·exact(aB g1)<|zo [.tmp 4]
 cases g2:decide (q.slot=e.name)
 ·exact(aB (bm g1 g2))<|zo [.tmp 4]
 ·exact(aB (bm g1 g2))<|zo [.tmp 4]
def Eo{l:List (bC)}(p:bC->Bool)(hlen:l.length<=1000000)(hp:∀x∈l,PC ac fid ((first++[.ag (aI x)])++cap) (·=an (p x)))(hg:cj first=true/\cj cap=true):PC ac 223 [ao 2 l aI,.fn fid first cap] (·=ab (gf p l)):=by
 refine pB 19 Tryz.func223 ?_;refine(aB @ao.eq_1)<|(zV)<|(zs) ?_;refine zL l (λk=>∀(i:Nat) y,i<k->l[i]?=some y->p y=false) (λk=>[(0,.sl l.length 2 (l.flatMap aI)),(1,.fn fid first cap),(7,ab l.length),(8,ab k)]) (λk=>[]) zH zp ?_;intro k hk hall;refine zT l k ?_ ?_;rintro rfl;rotate_left;intro x hx hlt;rotate_left
 ·exact(fo)<|(zV)<|zo [.tmp 4] (hq:=by rw[iC hall])
 ·refine(fw)<|(zV)<|(eQ (cJ hlt (aL (e:=2) (enc:=aI) gc hx) @aI.eq_1))<|(zK (hp x (mem_iff_getElem?.2 ⟨k,hx⟩)) (hwk:=((cA.refl hg.1).app zr).app (cA.refl hg.2))) ?_;refine aN.nil ?_
  change aE _ _ _ _ _;cases hpx:p x
  ·refine(zN)<|(aB (zi hlt hlen)) ?_;refine zX hlt zH ?_
   intro i y hi hy;by_cases hik:i=k
   ·subst hik;rw[hx] at hy;cases hy;exact hpx
   ·exact hall i y i4 hy
  ·exact(cK)<|zo [.tmp 4] (hq:=by rw[mb hx hpx hall])
def Ec{l:List (bC)}(p:bC->Bool)(hlen:l.length<=1000000)(hp:∀x∈l,PC ac fid ((first++[.ag (aI x)])++cap) (·=an (p x)))(hg:cj first=true/\cj cap=true):PC ac 140 [ao 2 l aI,.fn fid first cap] (·=an (l.any p)):=by
 refine pB 9 Tryz.func140 ?_;exact(jC)<|(zK (Eo p hlen hp hg) (hwk:=.cons (Wk.sl _ _ _) (.cons (.fn (cA.refl hg.1) (cA.refl hg.2)) .nil)))<|(zR)<|zo [.tmp 4] (hq:=by rw[nM])
def Ru(a b:bC):fY eG [AV.str a.key,.str a.value] [AV.str b.key,.str b.value]=(decide (a.key=b.key)&&decide (a.value=b.value)):=by
 simp[fY,eG,xL]
def Ha(a b:bC):c8 ac .eql 198 (.agg [.str a.key,.str a.value]) (.agg [.str b.key,.str b.value])=some (.bool (decide (a.key=b.key)&&decide (a.value=b.value))):=
 tj (ks:=[.s,.s]) zW zW (by simp only[aF,m6]) rfl rfl (Ru a b)
def AI(l:List bC)(s:bC)(hlen:l.length<=1000000):PC ac 222 [ao 2 l aI,.ag (aI s)] (·=ab (gf (λx=>decide (s.key=x.key)&&decide (s.value=x.value)) l)):=by
 refine pB 19 Tryz.func222 ?_;refine(aB @aI.eq_1) ?_;refine zZ [(0,ao 2 l aI),(3,.ip (aI s))] 0 rfl (gE (bm @ao.eq_1 @aI.eq_1))<|zA [(0,ao 2 l aI),(3,.ip (aI s))] [] zH<|(zV)<|(zs) ?_;refine zL l (λk=>∀(i:Nat) y,i<k->l[i]?=some y->(decide (s.key=y.key)&&decide (s.value=y.value))=false) (λk=>[(0,ao 2 l aI),(3,.ip (aI s)),(7,ab l.length),(8,ab k)]) (λk=>[]) zH zp ?_;intro k hk hall;refine zT l k ?_ ?_;rintro rfl;rotate_left;intro x hx hlt;rotate_left
 ·exact(fo)<|(zV)<|zo [.tmp 4] (hq:=by rw[iC hall])
 ·have heq:=Ha s x
  refine(fw)<|(zV)<|(zs) ?_;refine nw [0,0,0,6,14,31] ?_;refine(HW (fk hlt (aL (e:=2) (enc:=aI) gc hx) @aI.eq_1 heq))<|(zM) ?_
  cases hpx:(decide (s.key=x.key)&&decide (s.value=x.value))
  ·refine(zN)<|(aB (zi hlt hlen)) ?_;refine zX hlt zH ?_
   intro i y hi hy;by_cases hik:i=k
   ·subst hik;rw[hx] at hy;cases hy;exact hpx
   ·exact hall i y i4 hy
  ·exact(cK)<|zo [.tmp 4] (hq:=by rw[mb (p:=λx=>decide (s.key=x.key)&&decide (s.value=x.value)) hx hpx hall])
def uF(l:List bC)(s:bC)(hlen:l.length<=1000000):PC ac 139 [ao 2 l aI,.ag (aI s)] (·=an (l.any λx=>decide (x.key=s.key)&&decide (x.value=s.value))):=by
 have he:(l.any λx=>decide (x.key=s.key)&&decide (x.value=s.value))=l.any λx=>decide (s.key=x.key)&&decide (s.value=x.value):=by
  congr 1;funext x;simp only[eq_comm]
 rw[he];have hi:=AI l s hlen;refine pB 9 Tryz.func139 ?_;rw[show aI s=[ah s.key,ah s.value] from rfl] at hi ⊢
 exact(jC)<|(zK hi)<|(zR)<|zo [.tmp 4] (hq:=by rw[nM])
def Ef(g:FuncId)(caps:List SV)(hg:cj caps=true)(d:List Nat->Bool)(hp:∀x,PC ac g ([ah x]++caps) (·=an (d x))):PC ac 224 [bH,.fn g [] caps] (·=bH):=by
 have hidx:=q8 (l:=[]) d (fid:=g) (first:=[]) (cap:=caps) ge (λx hx=>hp x) ⟨rfl,hg⟩;rw[show gf d [] = -1 from rfl] at hidx
 refine pB 42 func224 ?_;exact(jC)<|(zK hidx (hwk:=.cons (.nil 1) (.cons (.fn .nil (cA.refl hg)) .nil)))<|(zR)<|(xw)<|(zV)<|zo [.tmp 4]
def IA(ps:List ak)(part kind:List Nat):lT (λn=>!(decide ((da ps n).kind=kind))) (eb ps part)=iD ps part kind:=by
 unfold lT iD;simp only[not_not]
def Bs(ps:List ak)(day:Int)(part kind:List Nat)(hlen:ps.length<=100000):PC ac 143 [.ag [ao 14 ps ae,ab day],ah part,ah kind] (·=ao 1 (iD ps part kind) (aD ah)):=by
 have hin:=oa ps part hlen;have hil:=kG ps part;rw[<-IA];have hd:=λn=>AM ps day n kind i4;generalize hdd:(λn=>!(decide ((da ps n).kind=kind)))=d at hd ⊢
 have hd:∀n,PC ac 225 ([ah n]++[.ip [ao 14 ps ae,ab day],.ip [ah kind]]) (·=an (d n)):=by rw[<-hdd];exact λn=>AM ps day n kind i4
 clear hdd;generalize eb ps part=L at hin hil
 refine pB 13 Tryz.func143 ?_;refine(zV) ?_;refine zZ [(1,ah part),(3,.ip [ao 14 ps ae,ab day]),(5,.ptr 1 0)] 0 rfl (gE @ao.eq_1)<|zZ [(1,ah part),(3,.ip [ao 14 ps ae,ab day]),(5,.ip [ah kind])] 1 rfl (gE @ao.eq_1)<|zA [(1,ah part),(3,.ip [ao 14 ps ae,ab day]),(5,.ip [ah kind])] [] zH ?_
 by_cases hL:L=[]
 ·subst hL;rw[show bY 0 1 ([]:List (List Nat)).length=bH from rfl,gw] at hin
  refine(zC) ?_;refine zS [] trivial hin ?_;exact(zQ)<|(zK (Ef 225 [.ip [ao 14 ps ae,ab day],.ip [ah kind]] rfl d hd))<|(zR)<|zo [.tmp 6] (r:=.sl 0 1 []) (hw:=Wk.nil _)
 ·have hL0:¬L.length=0:=λh=>hL (t8 h);rw[dQ (o:=0) (e:=1) hL0,fK hL] at hin;have hrc:∀(r:Nat->Nat) (l:List (List Nat)),mG r (l.flatMap (aD ah))=l.flatMap (aD ah):=λr l=>bl (aC (λ_=>rfl) l);have hbc:∀(B:Nat) (l:List (List Nat)),iy B (l.flatMap (aD ah))=true:=λB l=>bM (aC (λ_=>rfl) l);have hkc:∀(o:Nat) (l:List (List Nat)),(l.flatMap (aD ah)).map (aP o)=l.flatMap (aD ah):=λo l=>bp (enc:=aD ah) gc o l
  refine(zC) ?_;refine zS [] (cJ hrc hbc hkc) hin ?_;refine(zQ) ?_;refine zS [0] (cJ hrc hbc hkc) (G7 225 [.ip [ao 14 ps ae,ab day],.ip [ah kind]] rfl d hd L i4) ?_;exact(cM hkc)<|zo [.tmp 6] (r:=ao 1 (lT d L) (aD ah)) (hw:=.buf rfl (by rw[b9,b8,List.take_left'];(exact cA.refl (aC (λ_=>rfl) _));rw[Ar]) (by rw[Ar,li];omega))
def qi(join:FuncId)(j:Int->Int->Int)(hj:∀a b,PC ac join [ab a,ab b] (·=ab (j a b)))(one:FuncId)(caps:List SV)(hg:cj caps=true)(vals:List Int)(hlen:vals.length<=1000000)(h1:∀(i:Nat) x,vals[i]?=some x->PC ac one ([ab i]++caps) (·=ab x))(first:Int):
 PC ac 131 [.fn join [] [],ab first,ab vals.length,.fn one [] caps] (·=ab (vals.foldl j first)):=by
 refine pB 22 Tryz.func131 ?_;refine(nD)<|(zs) ?_;refine BF vals (λk (acc:Int)=>vals.foldl j first=(vals.drop k).foldl j acc) (λk acc=>[(0,.fn join [] []),(1,ab acc),(3,.fn one [] caps),(10,ab vals.length),(11,ab k)]) (λk acc=>[]) (first) zH ii ?_;intro k acc hk hall;refine zT vals k ?_ ?_;rintro rfl;rotate_left;intro x hx hlt;rotate_left
 ·refine(fo) ?_;rw[dt] at hall
  exact(zV)<|zo [.tmp 8] (hq:=by rw[hall];rfl)
 rw[eZ hx,g6] at hall
 refine(fw)<|(jC)<|(zK (h1 k x hx) (hwk:=.cons (.a _) (cA.refl hg)))<|(zQ)<|(zK (hj acc x))<|(zR)<|(aB (zi hlt hlen)) ?_;refine pw hlt (j acc x) zH hall
abbrev Ku(ps:List ak)(day:Int):SV:=.ip [ao 14 ps ae,ab day]
def EZ(ps:List ak)(day:Int)(e:aY)(part:List Nat)(v:Int):Prop:=PC ac 59 [.ag [ao 14 ps ae,ab day],.ag (aV e),ah part] (·=ab v)
def vU(ps:List ak)(day:Int)(e:aY)(part:List Nat)(i:Nat)(k:aY)(hk:e.kids[i]?=some k)(v:Int)(ih:EZ ps day k part v):PC ac 132 ([ab i]++[Ku ps day,Bc e,.ip [ah part]]) (·=ab v):=by
 have hlt:=bo hk;have hxl:((e.kids.flatMap aV).drop (i*6)).take 6=aV k:=aL jt hk;unfold EZ at ih;rw[cf k] at hxl ih
 refine pB 14 Tryz.func132 ?_;refine(zV)<|(zs) ?_;refine nw [0,0,2,0,14,30,0,127,255] ?_;exact(HW (bm hlt hxl))<|(yd (ih))<|(qx)<|(zM)<|zo [.tmp 5]
def AF(ps:List ak)(day:Int)(e:aY)(names:List (List Nat))(i:Nat)(nm:List Nat)(hi:names[i]?=some nm)(k:aY)(hk:e.kids[0]?=some k)(v:Int)(ih:EZ ps day k nm v):PC ac 144 ([ab i]++[Ku ps day,Bc e,.ip [ao 1 names (aD ah)]]) (·=ab v):=by
 have hlt:=bo hi;have hlk:=bo hk
 have hxl:(e.kids.flatMap aV).take 6=aV k:=by have:=aL jt hk;simpa using this
 have hnl:=aL (e:=1) (enc:=aD ah) gc hi;unfold EZ at ih;rw[cf k] at hxl ih
 refine pB 16 Tryz.func144 ?_;refine(zV)<|(zs) ?_;refine nw [0,0,2,6,14,0,0,96,224,511,1023] ?_;exact(HW (T1 hlt hlk hxl hnl @aD.eq_1 @Nat.zero_mul @drop_zero.{0} (show IL (.a (.int .i64 0))=some 0 from rfl)))<|(yd (ih))<|(qx)<|(zM)<|zo [.tmp 5]
section
variable {A:List Nat->Bool}
def nt(A:List Nat->Bool):List Nat->Bool:=λn=>!(A n)
end
section
variable {A:List Nat->Bool}
def Ks(x:ak):∀l:List ak,(vt x l).length<=l.length+1
 | []=>bb _
 | y::l=>by
  have ih:=Ks x l;rw[vt];split
  ·simp only[i7];omega
  ·split<;>simp only[i7]<;>omega
def gy{n:List Nat}{p:ak}(h:bE ps n=some p):p∈ps/\p.name=n:=by
 unfold bE at h;exact⟨List.mem_of_find?_eq_some h,by simpa using List.find?_some h⟩
end
def jj(ps:List ak)(day:Int)(e:aY)(part:List Nat):iX ps day e part=
 if e.op=2 then Mf ((C1 ps day e.kids part).headD 0)
 else if e.op=3 then (C1 ps day e.kids part).foldl CY 2
 else if e.op=4 then (C1 ps day e.kids part).foldl Rr 0
 else if e.op=10 then (Qb ps day e.kids (iD ps part e.name)).foldl CY 2
 else if e.op=11 then (Qb ps day e.kids (iD ps part e.name)).foldl Rr 0
 else Sa ps day e.op e.name e.value e.n e.extra part:=by
 obtain⟨op,name,value,n,extra,kids⟩:=e;rw[iX];rfl
def xC(ps:List ak)(day:Int)(part:List Nat):∀l:List aY,C1 ps day l part=l.map λk=>iX ps day k part
 | []=>rfl
 | k::l=>by rw[C1,xC ps day part l,cc]
variable{day:Int}{part:List Nat}
def SB(h:e.op=1):iX ps day e part=2:=by
 rw[jj,h];rfl
def SE{k:aY}(h:e.op=2)(hk:e.kids[0]?=some k):iX ps day e part=Mf (iX ps day k part):=by
 rw[jj,h,xC]
 cases hl:e.kids with
 | nil=>rw[hl] at hk;cases hk
 | cons a l=>rw[hl] at hk;cases hk;rfl
def SG(h:e.op=3):iX ps day e part=(e.kids.map λk=>iX ps day k part).foldl CY 2:=by
 rw[jj,h,xC];rfl
def SH(h:e.op=4):iX ps day e part=(e.kids.map λk=>iX ps day k part).foldl Rr 0:=by
 rw[jj,h,xC];rfl
def Nq(h:e.op=5):iX ps day e part=if (dm (da ps part) e.name day).2=0 then Mf (pa (dm (da ps part) e.name day).1.1 (dm (da ps part) e.name day).1.2 (e.n+e.extra)) else 0:=by
 rw[jj,h];rfl
def Nr(h:e.op=6):iX ps day e part=if (dm (da ps part) e.name day).2=0 then pa (dm (da ps part) e.name day).1.1 (dm (da ps part) e.name day).1.2 e.n else 0:=by
 rw[jj,h];rfl
def SI(h:e.op=7):iX ps day e part=EV ((da ps part).props.any λx=>decide (x.key=e.name)&&decide (x.value=e.value)):=by
 rw[jj,h];rfl
def SJ(h:e.op=8):iX ps day e part=EV ((da ps part).props.any λx=>decide (x.key=e.name)):=by
 rw[jj,h];rfl
def SK(h:e.op=9):iX ps day e part=EV (ps.any λq=>decide (q.aT=part)&&(decide (q.slot=e.name)&&decide (q.kind=e.value))):=by
 rw[jj,h];rfl
def Qd{k:aY}(h:e.op=10)(hk:e.kids[0]?=some k):iX ps day e part=((iD ps part e.name).map λn=>iX ps day k n).foldl CY 2:=by
 rw[jj,h]
 cases hl:e.kids with
 | nil=>rw[hl] at hk;cases hk
 | cons a l=>rw[hl] at hk;cases hk;rfl
def Qe{k:aY}(h:e.op=11)(hk:e.kids[0]?=some k):iX ps day e part=((iD ps part e.name).map λn=>iX ps day k n).foldl Rr 0:=by
 rw[jj,h]
 cases hl:e.kids with
 | nil=>rw[hl] at hk;cases hk
 | cons a l=>rw[hl] at hk;cases hk;rfl
def Qf(h:e.op=12):iX ps day e part=EV (decide (e.n<=((iD ps part e.name).length:Int))):=by
 rw[jj,h];rfl
def zJ(h:iO e=true)(ho:e.op=2\/e.op=10\/e.op=11):∃k,e.kids[0]?=some k:=by
 have hl:e.kids.length=1:=by
  unfold iO at h
  rcases ho with o | o | o<;>(unfold TQ at h;rw[o] at h;simp[Gr] at h;omega)
 cases hk:e.kids with
 | nil=>rw[hk] at hl;cases hl
 | cons a l=>exact⟨a,rfl⟩
def Te(h:iO e=true)(o:e.op=5):0<=e.n/\e.n<=9999999/\0<=e.extra/\e.extra<=9999999:=by
 unfold iO TQ at h;rw[o] at h;simp[Gr,Iw] at h;omega
def Q4(h:iO e=true)(n1:¬e.op=1)(n2:¬e.op=2)(n3:¬e.op=3)(n4:¬e.op=4)(n5:¬e.op=5)(n6:¬e.op=6)(n7:¬e.op=7)(n8:¬e.op=8)(n9:¬e.op=9)(n10:¬e.op=10)(n11:¬e.op=11):e.op=12:=by
 refine Classical.byContradiction λn12=>?_;unfold iO TQ at h;simp[n1,n2,n3,n4,n5,n6,n7,n8,n9,n10,n11,n12] at h
abbrev Qm(ps:List ak)(day:Int)(e:aY)(part:List Nat):List SV:=[Ku ps day,Bc e,.ip [ah part]]
abbrev wA(ps:List ak)(day:Int)(e:aY)(part:List Nat)(p:ak):Fm:=[(3,Ku ps day),(4,Bc e),(5,.ip [ah part]),(7,.ip (ae p)),(9,.fn 131 [] []),(10,.fn 132 [] (Qm ps day e part)),(11,ab e.n),(29,ab e.op)]
def CG(ps:List ak)(day:Int)(hlen:ps.length<=100000)(hps:∀p∈ps,p.props.length<=1000000):∀(d:Nat) (e:aY) (part:List Nat),SizeOf.sizeOf e<d->gB e->(fH e).all iO=true->EZ ps day e part (iX ps day e part)
 | 0,e,_,hd,_,_=>un hd (co _)
 | d+1,e,part,hd,he,hv=>by
  have hf:=gn ps part i4
  have ho:∃b,jf ae ak.zero (bE ps part)=.cx [.ag (ae (da ps part)),an b]:=by
   unfold da
   cases bE ps part with
   | none=>exact⟨false,rfl⟩
   | some p=>exact⟨true,rfl⟩
  obtain⟨b,ho⟩:=ho;rw[ho] at hf
  have hpp:(da ps part).props.length<=1000000:=by
   unfold da
   cases hm:bE ps part with
   | none=>exact cv _
   | some p=>exact hps p (gy hm).1
  rw[Cl,aj] at hv;have ih:∀k∈e.kids,∀nm,EZ ps day k nm (iX ps day k nm):=λk hk nm=>CG ps day hlen hps d k nm (by have:=y9 hk;omega) (he.Ud.2 k hk) (all_eq_true.1 hv.2 k hk);obtain⟨p,hp⟩:∃p,p=da ps part:=⟨_,rfl⟩;rw[<-hp] at hf hpp;refine pB 137 Tryz.func59 ?_;rw[cf e]
  refine(zV) ?_;refine zZ [(3,Ku ps day),(4,.ptr 1 0),(5,.ptr 2 0)] 0 rfl (gE @ao.eq_1)<|zZ [(3,Ku ps day),(4,Bc e),(5,.ptr 2 0)] 1 rfl (gE @ao.eq_1)<|zZ [(3,Ku ps day),(4,Bc e),(5,.ip [ah part])] 2 rfl (gE @ao.eq_1)<|zA [(3,Ku ps day),(4,Bc e),(5,.ip [ah part])] [] zH<|(zC)<|(zK hf (hfl:=.inr zr))<|(cM @ae.eq_1) ?_;refine zZ [(3,Ku ps day),(4,Bc e),(5,.ip [ah part]),(7,.ip (ae p))] 0 rfl (gE (bm @ao.eq_1 @ae.eq_1))<|zA [(3,Ku ps day),(4,Bc e),(5,.ip [ah part]),(7,.ip (ae p))] [] zH<|(nD)<|(nD)<|zA (wA ps day e part p) [] zH ?_
  (repeat (first | refine aE.seq ?_ | refine aE.block ?_))
  cases o1:decide (e.op=1);rotate_left
  ·have p1:=ww o1
   refine(aB o1)<|(zY) ?_;refine aE.exit ?_
   (try simp only[ea,cz,bI,bx])
   (try change aE _ _ _ _ _)
   exact(zV)<|zo [.tmp 6] (hq:=by rw[SB p1])
  have n1:=wt o1
  refine(aB o1)<|(zN) ?_
  (try change aE _ _ _ _ _)
  (repeat (first | refine aE.seq ?_ | refine aE.block ?_))
  cases o2:decide (e.op=2);rotate_left
  ·have p2:=ww o2
   refine(aB o2)<|(zY) ?_;refine aE.exit ?_
   (try simp only[ea,cz,bI,bx])
   (try change aE _ _ _ _ _)
   obtain⟨k,hk⟩:=zJ hv.1 (.inl p2);have hkp:PC ac 132 ([ab 0]++Qm ps day e part) (·=ab (iX ps day k part)):=vU ps day e part 0 k hk _ (ih k (ay hk) part)
   exact(zC)<|(zK hkp (hwk:=cA.refl rfl))<|(zQ)<|(zK (CL (iX ps day k part)))<|(zR)<|zo [.tmp 6] (hq:=by rw[SE p2 hk])
  have n2:=wt o2
  refine(aB o2)<|(zN) ?_
  (try change aE _ _ _ _ _)
  (repeat (first | refine aE.seq ?_ | refine aE.block ?_))
  cases o3:decide (e.op=3);rotate_left
  ·have p3:=ww o3
   refine(aB o3)<|(zY) ?_;refine aE.exit ?_
   (try simp only[ea,cz,bI,bx])
   (try change aE _ _ _ _ _)
   have hfo:=qi 134 CY CF 132 (Qm ps day e part) rfl (e.kids.map λk=>iX ps day k part) (by rw[ad];exact he.Ud.1) (λi x hi=>by
    obtain⟨k,hk,rfl⟩:=qL hi
    exact vU ps day e part i k hk _ (ih k (ay hk) part)) 2
   rw[ad] at hfo
   exact(zC)<|(zK hfo (hwk:=cA.refl rfl))<|(zR)<|zo [.tmp 6] (hq:=by rw[SG p3])
  have n3:=wt o3
  refine(aB o3)<|(zN) ?_
  (try change aE _ _ _ _ _)
  (repeat (first | refine aE.seq ?_ | refine aE.block ?_))
  cases o4:decide (e.op=4);rotate_left
  ·have p4:=ww o4
   refine(aB o4)<|(zY) ?_;refine aE.exit ?_
   (try simp only[ea,cz,bI,bx])
   (try change aE _ _ _ _ _)
   have hfo:=qi 135 Rr Hq 132 (Qm ps day e part) rfl (e.kids.map λk=>iX ps day k part) (by rw[ad];exact he.Ud.1) (λi x hi=>by
    obtain⟨k,hk,rfl⟩:=qL hi
    exact vU ps day e part i k hk _ (ih k (ay hk) part)) 0
   rw[ad] at hfo
   exact(zC)<|(zK hfo (hwk:=cA.refl rfl))<|(zR)<|zo [.tmp 6] (hq:=by rw[SH p4])
  have n4:=wt o4
  refine(aB o4)<|(zN) ?_
  (try change aE _ _ _ _ _)
  (repeat (first | refine aE.seq ?_ | refine aE.block ?_))
  cases o5:decide (e.op=5);rotate_left
  ·have p5:=ww o5
   refine(aB o5)<|(zY) ?_;refine aE.exit ?_
   (try simp only[ea,cz,bI,bx])
   (try change aE _ _ _ _ _)
   have h5:=Te hv.1 p5;refine(aB (BM (P:=ac) (t:=3) (a:=e.n) (b:=e.extra) i4)) ?_;have hva:=wY p e.name day
   have hvq:dm (da ps part) e.name day=dm p e.name day:=by rw[hp]
   generalize dm p e.name day=q at hva hvq;obtain⟨⟨v1,v2⟩,cd⟩:=q;unfold HO at hva
   refine(eQ @ae.eq_1)<|(zK hva (hfl:=.inr zr))<|(zR) ?_
   cases hc:decide (cd=0)
   ·exact(aB hc)<|(cK)<|zo [.tmp 6] (hq:=by rw[Nq p5,hvq,v6 (wt hc)])
   exact(aB hc)<|(M4)<|(zK (q7 v1 v2 (e.n+e.extra)))<|(zR)<|(aB (show decide (e.op=6)=false by rw[p5];rfl))<|(M4)<|(zK (CL _))<|(zR)<|zo [.tmp 6] (hq:=by rw[Nq p5,hvq,ut (ww hc)])
  have n5:=wt o5
  refine(aB o5)<|(zN) ?_
  (try change aE _ _ _ _ _)
  (repeat (first | refine aE.seq ?_ | refine aE.block ?_))
  cases o6:decide (e.op=6);rotate_left
  ·have p6:=ww o6
   refine(aB o6)<|(zY) ?_;refine aE.exit ?_
   (try simp only[ea,cz,bI,bx])
   (try change aE _ _ _ _ _)
   have hva:=wY p e.name day
   have hvq:dm (da ps part) e.name day=dm p e.name day:=by rw[hp]
   generalize dm p e.name day=q at hva hvq;obtain⟨⟨v1,v2⟩,cd⟩:=q;unfold HO at hva
   refine(eQ @ae.eq_1)<|(zK hva (hfl:=.inr zr))<|(zR) ?_
   cases hc:decide (cd=0)
   ·exact(aB hc)<|(cK)<|zo [.tmp 6] (hq:=by rw[Nr p6,hvq,v6 (wt hc)])
   exact(aB hc)<|(M4)<|(zK (q7 v1 v2 (e.n)))<|(zR)<|(aB (show decide (e.op=6)=true by rw[p6];rfl))<|(cK)<|zo [.tmp 6] (hq:=by rw[Nr p6,hvq,ut (ww hc)])
  have n6:=wt o6
  refine(aB o6)<|(zN) ?_
  (try change aE _ _ _ _ _)
  (repeat (first | refine aE.seq ?_ | refine aE.block ?_))
  cases o7:decide (e.op=7);rotate_left
  ·have p7:=ww o7
   refine(aB o7)<|(zY) ?_;refine aE.exit ?_
   (try simp only[ea,cz,bI,bx])
   (try change aE _ _ _ _ _)
   exact(eQ @ae.eq_1)<|(zK (uF p.props ⟨e.name,e.value⟩ hpp))<|(zQ)<|(zK (rY _))<|(zR)<|zo [.tmp 6] (hq:=by rw[SI p7,<-hp])
  have n7:=wt o7
  refine(aB o7)<|(zN) ?_
  (try change aE _ _ _ _ _)
  (repeat (first | refine aE.seq ?_ | refine aE.block ?_))
  cases o8:decide (e.op=8);rotate_left
  ·have p8:=ww o8
   refine(aB o8)<|(zY) ?_;refine aE.exit ?_
   (try simp only[ea,cz,bI,bx])
   (try change aE _ _ _ _ _)
   exact(eQ @ae.eq_1)<|(zK (Ec (l:=p.props) (λx=>decide (x.key=e.name)) (fid:=141) (first:=[]) (cap:=[Bc e]) hpp (λx _=>MH x e) ⟨rfl,rfl⟩))<|(zQ)<|(zK (rY _))<|(zR)<|zo [.tmp 6] (hq:=by rw[SJ p8,<-hp])
  have n8:=wt o8
  refine(aB o8)<|(zN) ?_
  (try change aE _ _ _ _ _)
  (repeat (first | refine aE.seq ?_ | refine aE.block ?_))
  cases o9:decide (e.op=9);rotate_left
  ·have p9:=ww o9
   refine(aB o9)<|(zY) ?_;refine aE.exit ?_
   (try simp only[ea,cz,bI,bx])
   (try change aE _ _ _ _ _)
   exact(zC)<|(zK (uE (l:=ps) (λq=>decide (q.aT=part)&&(decide (q.slot=e.name)&&decide (q.kind=e.value))) (fid:=142) (first:=[]) (cap:=[.ip [ah part],Bc e]) i4 (λx _=>Jn x part e) ⟨rfl,rfl⟩))<|(zQ)<|(zK (rY _))<|(zR)<|zo [.tmp 6] (hq:=by rw[SK p9])
  have n9:=wt o9
  refine(aB o9)<|(zN) ?_
  (try change aE _ _ _ _ _)
  (repeat (first | refine aE.seq ?_ | refine aE.block ?_))
  refine aE.exit ?_
  (try simp only[ea,cz,bI,bx])
  (try change aE _ _ _ _ _)
  have hin:=Bs ps day part e.name hlen;have hil:(iD ps part e.name).length<=ps.length:=ce (cb _ _) (kG ps part);obtain⟨N,hN⟩:∃N,N=iD ps part e.name:=⟨_,rfl⟩;rw[<-hN] at hin hil
  refine(jC)<|(zK hin (hfl:=.inr zr))<|(zR) ?_;refine zZ [(3,Ku ps day),(4,Bc e),(9,.fn 131 [] []),(16,.ip [ao 1 N (aD ah)])] 0 rfl (gE @ao.eq_1)<|zA [(3,Ku ps day),(4,Bc e),(9,.fn 131 [] []),(16,.ip [ao 1 N (aD ah)])] [] zH<|(nD)<|(zB) ?_
  cases o10:decide (e.op=10);rotate_left
  ·have p10:=ww o10
   refine(aB o10)<|(zY) ?_
   obtain⟨k,hk⟩:=zJ hv.1 (.inr (.inl p10))
   have hfo:=qi 134 CY CF 144 [Ku ps day,Bc e,.ip [ao 1 N (aD ah)]] rfl (N.map λn=>iX ps day k n) (by rw[ad];omega) (λi x hi=>by
    obtain⟨nm,hnm,rfl⟩:=qL hi
    exact AF ps day e N i nm hnm k hk _ (ih k (ay hk) nm)) 2
   rw[ad] at hfo
   exact(eQ @ao.eq_1)<|(zK hfo (hwk:=cA.refl rfl))<|(zR)<|zo [.tmp 6] (hq:=by rw[Qd p10 hk,<-hN])
  have n10:=wt o10
  refine(aB o10)<|(zN) ?_
  cases o11:decide (e.op=11);rotate_left
  ·have p11:=ww o11
   refine(aB o11)<|(zY) ?_
   obtain⟨k,hk⟩:=zJ hv.1 (.inr (.inr p11))
   have hfo:=qi 135 Rr Hq 144 [Ku ps day,Bc e,.ip [ao 1 N (aD ah)]] rfl (N.map λn=>iX ps day k n) (by rw[ad];omega) (λi x hi=>by
    obtain⟨nm,hnm,rfl⟩:=qL hi
    exact AF ps day e N i nm hnm k hk _ (ih k (ay hk) nm)) 0
   rw[ad] at hfo
   exact(eQ @ao.eq_1)<|(zK hfo (hwk:=cA.refl rfl))<|(zR)<|zo [.tmp 6] (hq:=by rw[Qe p11 hk,<-hN])
  have n11:=wt o11;have p12:=Q4 hv.1 n1 n2 n3 n4 n5 n6 n7 n8 n9 n10 n11
  exact(aB o11)<|(zN)<|(eQ @ao.eq_1)<|(zK (rY (decide (e.n<=(N.length:Int)))))<|(zR)<|zo [.tmp 6] (hq:=by rw[Qf p12,<-hN])
structure PR (c:List aM) (F:List Nat->Option ak) (p:ak):Prop where
 r:dJ c p=true
 s:p.aT=[]↔p.slot=[]
 h:p.aT≠[]->∃h,F p.aT=some h/\p.bq=false/\h.bq=false/\lR c h.kind p.slot p.kind=true
def E1(p q:ak):Prop:=p.aT≠[]->¬(q.aT=p.aT/\q.slot=p.slot)
def E1.symm{p q:ak}(h:E1 p q):E1 q p:=λk e=>h (by rw[e.1];exact k) ⟨e.1.symm,e.2.symm⟩
def Ot{t:List (fQ×Bool)}{p:ak}(o:Option ak):si c t p o=true↔(getM false ⟨p.aT,p.slot⟩ t=false/\∃h,o=some h/\p.bq=false/\h.bq=false/\lR c h.kind p.slot p.kind=true):=by
 cases o with
 | none=>exact⟨λh=>(by cases h),λ⟨_,h,k,_⟩=>(by cases k)⟩
 | some h=>
  unfold si;simp only[qr,exists_eq_left'];generalize getM false ⟨p.aT,p.slot⟩ t=a;generalize p.bq=b;generalize h.bq=d;generalize lR c h.kind p.slot p.kind=e;cases a<;>cases b<;>cases d<;>cases e<;>simp
def Cp{c:List aM}{ps:List ak}:∀{l:List ak} {t:List (fQ×Bool)},fh c ps (nv 0 [] ps) t l=true↔(∀p∈l,PR c (bE ps) p/\(p.aT≠[]->getM false ⟨p.aT,p.slot⟩ t=false))/\l.Pairwise E1
 | [],t=>⟨λ_=>⟨λp hp=>(by cases hp),.nil⟩,λ_=>rfl⟩
 | p::l,t=>by
  have ih:=λ{t}=>Cp (c:=c) (ps:=ps) (l:=l) (t:=t);rw[fh,List.pairwise_cons,Bool.and_eq_true,Bool.and_eq_true];by_cases hi:p.aT=[]
  ·rw[wl hi,aq,ih];constructor
   ·rintro⟨h1,h2,h3,h4⟩
    have hs:p.slot=[]:=by simpa using h2
    refine⟨λq hq=>?_,λq _ k=>un hi k,h4⟩
    rcases t7 hq with rfl | hq
    ·exact⟨⟨h1,⟨λ_=>hs,λ_=>hi⟩,λk=>un hi k⟩,λk=>un hi k⟩
    ·exact h3 q hq
   ·rintro⟨h1,_,h4⟩;have h0:=h1 p List.mem_cons_self;exact⟨h0.1.r,by rw[wl (h0.1.s.1 hi)];rfl,λq hq=>h1 q (List.mem_cons_of_mem _ hq),h4⟩
  ·rw[wd hi,aA,Bool.and_eq_true,ih,oO,Ot];constructor
   ·rintro⟨h1,h2,⟨h3,h3'⟩,h4,h5⟩
    have hs:¬p.slot=[]:=by simpa using h2
    refine⟨λq hq=>?_,λq hq k e=>?_,h5⟩
    ·rcases t7 hq with rfl | hq
     ·exact⟨⟨h1,⟨λk=>un k hi,λk=>un k hs⟩,λ_=>h3'⟩,λ_=>h3⟩
     ·refine⟨(h4 q hq).1,λk=>?_⟩;have:=(h4 q hq).2 k;rw[ll] at this;split at this
      ·cases this
      ·exact this
    ·have:=(h4 q hq).2 (by rw[e.1];exact k);rw[ll,ut (by rw[e.1,e.2])] at this;cases this
   ·rintro⟨h1,h2,h5⟩;have h0:=h1 p List.mem_cons_self;refine⟨h0.1.r,?_,⟨h0.2 hi,h0.1.h hi⟩,λq hq=>⟨(h1 q (List.mem_cons_of_mem _ hq)).1,λk=>?_⟩,h5⟩
    ·rw[wd λk=>hi (h0.1.s.2 k)];rfl
    ·rw[ll,v6,(h1 q (List.mem_cons_of_mem _ hq)).2 k];intro e;exact h2 q hq hi ⟨rc fQ.aT e,rc fQ.slot e⟩
def O3:∀{ps:List ak},eu (ps.map ak.name)=true->ps.Pairwise λp q=>fF p.name q.name=true
 | [],_=>.nil
 | y::l,h=>.cons (λp hp=>nR (a:=y.name) (l:=l.map ak.name) h _ (bh hp)) (O3 (iJ h))
def jv{p:ak}:∀{ps:List ak},eu (ps.map ak.name)=true->p∈ps->bE ps p.name=some p
 | [],_,h=>by cases h
 | y::l,ho,h=>by
  unfold bE;rw[ch]
  rcases t7 h with rfl | h
  ·rw[wl rfl]
  ·have hlt:=nR (a:=y.name) (l:=l.map ak.name) ho _ (bh h);rw[wd λe=>by rw[e,c9] at hlt;cases hlt];exact jv (iJ ho) h
def Pc{α:Type}{R:α->α->Prop}(hs:∀{a b},R a b->R b a):∀{l:List α},l.Pairwise R->∀a∈l,∀b∈l,a=b\/R a b
 | [],_,a,h,_,_=>by cases h
 | y::l,h,a,ha,b,hb=>by
  rw[f6] at h
  rcases t7 ha with e | ha2
  ·rcases t7 hb with e2 | hb2
   ·exact .inl (e.trans e2.symm)
   ·exact .inr (by rw[e];exact h.1 b hb2)
  ·rcases t7 hb with e2 | hb2
   ·exact .inr (by rw[e2];exact hs (h.1 a ha2))
   ·exact Pc hs h.2 a ha2 b hb2
structure VF (c:List aM) (F:List Nat->Option ak):Prop where
 n:∀{n p},F n=some p->p.name=n
 p:∀{n p},F n=some p->PR c F p
 u:∀{m n p q},F m=some p->F n=some q->m≠n->E1 p q
def uT(hc:oJ c=true)(ho:eu (ps.map ak.name)=true)(hlen:ps.length<=20000):dM c ps=true↔VF c (bE ps):=by
 unfold dM;rw[hc,ho,wd (show ¬20000<(ps.length:Int) by omega)];simp only[Bool.not_false,hu];rw[Cp];constructor
 ·rintro⟨h1,h2⟩;refine⟨λh=>(gy h).2,λh=>(h1 _ (gy h).1).1,λ{m n p q} h k hne=>?_⟩;obtain⟨a1,a2⟩:=gy h;obtain⟨b1,b2⟩:=gy k;exact(Pc E1.symm h2 p a1 q b1).resolve_left λe=>hne (by rw[<-a2,<-b2,e])
 ·intro h;refine⟨λp hp=>⟨h.p (jv ho hp),λ_=>rfl⟩,(O3 ho).imp_of_mem λ{p q} hp hq hlt=>h.u (jv ho hp) (jv ho hq) λe=>?_⟩;rw[e,c9] at hlt;cases hlt
def rf(h:dM c ps=true):oJ c=true/\eu (ps.map ak.name)=true/\ps.length<=20000:=by
 unfold dM at h;simp only[aj,bc,wn] at h;exact⟨h.1,h.2.2.1,by omega⟩
def FF{x:ak}{n:List Nat}:∀{l:List ak},bE (vt x l) n=if n=x.name then some x else bE l n
 | []=>by
  unfold vt bE;rw[ch];by_cases h:n=x.name
  ·rw[ut h,wl h.symm]
  ·rw[v6 h,wd λe=>h e.symm]
 | y::l=>by
  have ih:=FF (x:=x) (n:=n) (l:=l)
  have cons:∀(z:ak) (r:List ak),bE (z::r) n=if n=z.name then some z else bE r n:=λz r=>by
   unfold bE;rw[ch];by_cases h:n=z.name
   ·rw[ut h,wl h.symm]
   ·rw[v6 h,wd λe=>h e.symm]
  rw[vt];split
  ·rename_i h;rw[cons,ih,cons];by_cases e:n=y.name
   ·rw[ut e,ut e,v6];intro e2;rw[<-e,e2,c9] at h;cases h
   ·rw[v6 e,v6 e]
  ·split
   ·rename_i e;rw[cons,cons,e];split<;>rfl
   ·rw[cons]
def Of{n:List Nat}(l:List ak):bE (cy l x) n=if n=x.name then some x else bE l n:=by
 rw[nV,FF]
variable{F:List Nat->Option ak}
def VF.put(h:VF c F)(hr:dJ c x=true)(hs:x.aT=[]↔x.slot=[])
 (hh:x.aT≠[]->∃h,(if x.aT=x.name then some x else F x.aT)=some h/\x.bq=false/\h.bq=false/\lR c h.kind x.slot x.kind=true)
 (hf:x.aT≠[]->∀n q,n≠x.name->F n=some q->¬(q.aT=x.aT/\q.slot=x.slot))
 (hg:∀n q,n≠x.name->F n=some q->q.aT≠[]->q.aT=x.name->x.bq=false/\lR c x.kind q.slot q.kind=true):VF c λn=>if n=x.name then some x else F n:=by
 have out:∀{n p},n≠x.name->(if n=x.name then some x else F n)=some p->F n=some p:=λe k=>by rw[v6 e] at k;exact k
 refine⟨λ{n p} k=>?_,λ{n p} k=>?_,λ{m n p q} k1 k2 hne=>?_⟩
 ·by_cases e:n=x.name
  ·rw[ut e] at k;cases k;exact e.symm
  ·exact h.n (out e k)
 ·by_cases e:n=x.name
  ·rw[ut e] at k;cases k;exact⟨hr,hs,hh⟩
  ·have k2:=out e k;have hp:=h.p k2;refine⟨hp.r,hp.s,λk3=>?_⟩;obtain⟨g,g1,g2,g3,g4⟩:=hp.h k3;by_cases e2:p.aT=x.name
   ·obtain⟨f1,f2⟩:=hg n p e k2 k3 e2;exact⟨x,ut e2,g2,f1,f2⟩
   ·exact⟨g,by rw[v6 e2];exact g1,g2,g3,g4⟩
 ·by_cases e:m=x.name
  ·have e2:n≠x.name:=λe2=>hne (e.trans e2.symm);rw[ut e] at k1;cases k1;exact λk=>hf k n q e2 (out e2 k2)
  ·by_cases e2:n=x.name
   ·rw[ut e2] at k2;cases k2;exact E1.symm λk=>hf k m p e (out e k1)
   ·exact h.u (out e k1) (out e2 k2) hne
def VF.On(h:VF c F){p:ak}(hF:F p.name=some p)(h1:x.name=p.name)(h2:x.kind=p.kind)(h3:x.bq=p.bq):∀n q,n≠x.name->F n=some q->q.aT≠[]->q.aT=x.name->x.bq=false/\lR c x.kind q.slot q.kind=true:=by
 intro n q _ hq hi e;obtain⟨g,g1,g2,g3,g4⟩:=(h.p hq).h hi;rw[e,h1,hF] at g1;cases g1;rw[h3,h2];exact⟨g3,g4⟩
def VF.same(h:VF c F){p:ak}(hF:F p.name=some p)(hr:dJ c x=true)(h1:x.name=p.name)(h2:x.kind=p.kind)(h3:x.bq=p.bq)(h4:x.aT=p.aT)(h5:x.slot=p.slot):VF c λn=>if n=x.name then some x else F n:=by
 have hp:=h.p hF;refine h.put hr (by rw[h4,h5];exact hp.s) (λk=>?_) (λk n q hn hq=>?_) (h.On hF h1 h2 h3)
 ·obtain⟨g,g1,g2,g3,g4⟩:=hp.h (by rw[<-h4];exact k);by_cases e:x.aT=x.name
  ·rw[h4,h1] at e;rw[e,hF] at g1;cases g1;exact⟨x,by rw[h4,h1,ut e],by rw[h3];exact g2,by rw[h3];exact g2,by rw[h2,h5];exact g4⟩
  ·exact⟨g,by rw[v6 e,h4];exact g1,by rw[h3];exact g2,g3,by rw[h2,h5];exact g4⟩
 ·have:=h.u hF hq λe=>hn (by rw[h1];exact e.symm);rw[h4] at k ⊢;rw[h5];exact this k
def wb(x:bC):List bC->List bC
 | []=>[x]
 | y::l=>if fF y.key x.key=true then y::wb x l else if y.key=x.key then x::l else x::y::l
def wj(x:bC):∀l:List bC,gI l x=wb x l
 | []=>by simp[gI,nT,iB,wb]
 | y::l=>by
  have ih:=wj x l;unfold gI nT at ih ⊢;rw[wb,fy];split
  ·rename_i h
   have e:iB (y::l) x.key (g8 (y::es (λp=>fF p.key x.key) l))=iB l x.key (es (λp=>fF p.key x.key) l).length:=by
    unfold iB;rw[i7,cp]
   rw[e,i7,f7,fN,fm,dl];split at ih<;>rename_i hf
   ·rw[ut hf,ih]
   ·rw[v6 hf,ih]
  ·rename_i h;rw[i5];unfold iB;simp only[el,set_cons_zero,take_zero,drop_zero,nil_append,wp]
def B5{x:bC}:∀{l:List bC},eu (l.map bC.key)=true->eu ((wb x l).map bC.key)=true/\∀p∈wb x l,p=x\/p∈l
 | [],_=>⟨rfl,λp hp=>by rw[wb,f5] at hp;exact .inl hp⟩
 | y::l,ho=>by
  obtain⟨i1,i2⟩:=B5 (x:=x) (l:=l) (iJ ho);have hlt:=nR (a:=y.key) (l:=l.map bC.key) ho
  have cons:∀{a:bC} {r:List bC},(∀p∈r,fF a.key p.key=true)->eu (r.map bC.key)=true->eu ((a::r).map bC.key)=true:=by
   intro a r h1 h2
   cases r with
   | nil=>rfl
   | cons b r=>
    rw[cc,cc,eu,aj];exact⟨h1 b be,by rw[cc] at h2;exact h2⟩
  rw[wb];split
  ·rename_i h;refine⟨cons (λp hp=>?_) i1,λp hp=>?_⟩
   ·rcases i2 p hp with rfl | hp
    ·exact h
    ·exact hlt _ (bh hp)
   ·rcases t7 hp with rfl | hp
    ·exact .inr be
    ·exact(i2 p hp).imp id (ba _)
  ·rename_i h;split
   ·rename_i e;refine⟨cons (λp hp=>by rw[<-e];exact hlt _ (bh hp)) (iJ ho),λp hp=>?_⟩
    rcases t7 hp with rfl | hp
    ·exact .inl rfl
    ·exact .inr (ba _ hp)
   ·rename_i e
    have hxy:fF x.key y.key=true:=by
     rcases jV x.key y.key with k | k | k
     ·exact k
     ·exact un k.symm e
     ·exact un k h
    refine⟨cons (λp hp=>?_) ho,λp hp=>?_⟩
    ·rcases t7 hp with rfl | hp
     ·exact hxy
     ·exact fG hxy (hlt _ (bh hp))
    ·rcases t7 hp with rfl | hp
     ·exact .inl rfl
     ·exact .inr hp
def qG{e:br}(h:dL e=true):0<=e.day/\e.day<=40000/\cN e.part=true/\e.j7=true/\∀s∈e.names,cN s=true:=by
 unfold dL at h;simp only[aj,bc,wn] at h;obtain⟨_,h1,h2,h3,h4,_,h6⟩:=h;exact⟨by omega,by omega,h3,h4,λs hs=>by simpa using List.any_eq_false.1 h6 s hs⟩
def KD{s:List Nat}(h:cN s=true):s≠[]:=λe=>by rw[e] at h;cases h
def GP{p:ak}{e:br}(h:dJ c p=true)(he:dL e=true):dJ c (lI p e)=true:=by
 obtain⟨h1,h2,_⟩:=qG he;unfold dJ at h ⊢;simp only[aj,bc,wn] at h ⊢;obtain⟨a1,a2,a3,a4,a5,a6,a7,a8,_⟩:=h;refine⟨a1,a2,a3,?_,?_,a6,a7,a8,rfl,rfl,rfl⟩
 ·show ¬dV p.since e.day<p.made;unfold dV;split<;>omega
 ·show ¬40000<dV p.since e.day;unfold dV;split<;>omega
def I2{p:ak}{e:br}(h:dJ c p=true)(he:dL e=true)(h6:e.op=6)(hl:¬60<((gI p.props ⟨e.key,e.value⟩).length:Int)):dJ c (qn p e)=true:=by
 obtain⟨_,_,_,hm,hn⟩:=qG he;have hk:cN e.key=true:=hn _ (by unfold br.names;rw[h6];exact rx rfl)
 have hv:nU ⟨e.key,e.value⟩=true:=by
  unfold br.j7 at hm;rw[h6] at hm;simp only[show ¬(6:Int)=1 by decide,show ¬(6:Int)=2 by decide,if_false,if_true,aj,bc,wn] at hm;unfold nU;simp only[hk,hu,aj,bc,wn,wp];exact⟨hm.1,by omega⟩
 unfold dJ at h ⊢;simp only[aj,bc,wn] at h ⊢;obtain⟨a1,a2,a3,a4,a5,a6,a7,a8,a9⟩:=h;refine⟨a1,a2,a3,a4,a5,hl,?_,?_,a9⟩
 ·show(gI p.props ⟨e.key,e.value⟩).all nU=true;rw[all_eq_true] at a7 ⊢;intro x hx
  rcases wm hx with rfl | hx
  ·exact hv
  ·exact a7 x hx
 ·show eu ((gI p.props ⟨e.key,e.value⟩).map bC.key)=true;rw[wj];exact(B5 a8).1
def Mt{e:br}(he:dL e=true)(hk:¬(dF c e.kind).isNone=true):dJ c (nQ e)=true:=by
 obtain⟨h1,h2,h3,_⟩:=qG he;unfold dJ nQ;simp only[aj,bc,wn];refine⟨?_,h3,by omega,by omega,by omega,by simp,rfl,rfl,rfl,rfl,rfl⟩
 cases h:dF c e.kind with
 | none=>rw[h] at hk;exact un rfl hk
 | some k=>rfl
def RB{e:br}{p h:ak}(hV:VF c (bE ps))(he:dL e=true)(hF:bE ps p.name=some p)(hH:e.op=2->bE ps e.aT=some h/\p.name=e.part)(hps:p.bq=false)(hhs:h.bq=false)(h0:(jg c ps e p h).2=0):∃x,(jg c ps e p h).1=cy ps x/\VF c (λn=>if n=x.name then some x else bE ps n):=by
 have hp:=hV.p hF;unfold jg at h0 ⊢;simp only at h0 ⊢;by_cases h2:e.op=2
 ·rw[ut h2] at h0 ⊢;obtain⟨g1,g2⟩:=hH h2;obtain⟨_,_,_,hm,hn⟩:=qG he;have hi:e.aT≠[]:=KD (hn _ (by unfold br.names;rw[h2];exact be));have hs:e.slot≠[]:=KD (hn _ (by unfold br.names;rw[h2];exact ba _ be))
  have hne:e.aT≠e.part:=by
   unfold br.j7 at hm;rw[h2] at hm;simpa using hm
  split at h0
  ·cases h0
  rename_i k1;rw[v6 k1];split at h0
  ·cases h0
  rename_i k2;rw[v6 k2];split at h0
  ·cases h0
  rename_i k3;rw[v6 k3];simp only[gv,not_or,f8,Bool.not_eq_false'] at k1;refine⟨_,rfl,hV.put (x:=xf p e) hp.r ⟨λk=>un k hi,λk=>un k hs⟩ (λ_=>⟨h,?_,hps,hhs,k1.2⟩) (λ_ n q _ hq k=>?_) (hV.On hF rfl rfl rfl)⟩
  ·show(if e.aT=p.name then some (xf p e) else bE ps e.aT)=some h;rw[v6 (by rw[g2];exact hne)];exact g1
  ·refine k3 (List.any_eq_true.2 ⟨q,(gy hq).1,?_⟩);rw[aj,wp,wp];exact k
 rw[v6 h2] at h0 ⊢;by_cases h3:e.op=3
 ·rw[ut h3] at h0 ⊢;split at h0
  ·cases h0
  rename_i k1;rw[v6 k1];exact⟨_,rfl,hV.put (x:=z7 p) hp.r ⟨λ_=>rfl,λ_=>rfl⟩ (λk=>un rfl k) (λk=>un rfl k) (hV.On hF rfl rfl rfl)⟩
 rw[v6 h3] at h0 ⊢;by_cases h4:e.op=4
 ·rw[ut h4] at h0 ⊢;split at h0
  ·rename_i k1;rw[ut k1];exact⟨_,rfl,hV.same hF hp.r rfl rfl rfl rfl rfl⟩
  ·cases h0
 rw[v6 h4] at h0 ⊢;by_cases h5:e.op=5
 ·rw[ut h5] at h0 ⊢;exact⟨_,rfl,hV.same (x:=lI p e) hF (GP hp.r he) rfl rfl rfl rfl rfl⟩
 rw[v6 h5] at h0 ⊢;by_cases h6:e.op=6
 ·rw[ut h6] at h0 ⊢;split at h0
  ·cases h0
  rename_i k1;rw[v6 k1];exact⟨_,rfl,hV.same (x:=qn p e) hF (I2 hp.r he h6 k1) rfl rfl rfl rfl rfl⟩
 rw[v6 h6] at h0 ⊢;by_cases h7:e.op=7
 ·rw[ut h7] at h0 ⊢;split at h0
  ·cases h0
  rename_i k1;rw[v6 k1];split at h0
  ·cases h0
  rename_i k2;rw[v6 k2];have k1:p.aT=[]:=Decidable.not_not.1 k1;refine⟨_,rfl,hV.put (x:=qM p) hp.r hp.s (λk=>un k1 k) (λk=>un k1 k) λn q _ hq hi k=>?_⟩;exact un (List.any_eq_true.2 ⟨q,(gy hq).1,wl k⟩) k2
 rw[v6 h7] at h0 ⊢;exact⟨_,rfl,hV.same hF hp.r rfl rfl rfl rfl rfl⟩
def FJ{e:br}(hlen:ps.length<20000)(h0:(aR c ps e).2=0):(dM c (aR c ps e).1=true/\(aR c ps e).1.length<=ps.length+1)/\dL e=true:=by
 unfold aR at h0 ⊢;split at h0;rotate_left
 ·cases h0
 rename_i hv;rw[ut hv];split at h0;rotate_left
 ·cases h0
 rename_i he;rw[ut he];refine⟨?_,he⟩;obtain⟨hc,ho,_⟩:=rf hv;have hV:=(uT hc ho i4).1 hv
 have fin:∀x,VF c (λn=>if n=x.name then some x else bE ps n)->dM c (cy ps x)=true/\(cy ps x).length<=ps.length+1:=λx hx=>by
  have hl:=Ks x ps;rw[<-nV] at hl;refine⟨(uT hc (by rw[nV];exact(Kt ho).1) i4).2 ?_,hl⟩;rw[show bE (cy ps x)=λn=>if n=x.name then some x else bE ps n from funext λn=>Of ps];exact hx
 by_cases h1:e.op=1
 ·rw[ut h1] at h0 ⊢;rw[oO] at h0 ⊢;unfold zu at h0 ⊢;split at h0
  ·cases h0
  rename_i k1;rw[v6 k1];split at h0
  ·cases h0
  rename_i k2;rw[v6 k2];split at h0
  ·cases h0
  rename_i k3;rw[v6 k3];refine fin _ (hV.put (Mt he k2) ⟨λ_=>rfl,λ_=>rfl⟩ (λk=>un rfl k) (λk=>un rfl k) λn q _ hq hi k=>?_);obtain⟨g,g1,_⟩:=(hV.p hq).h hi;rw[k] at g1;have g1:bE ps e.part=some g:=g1;rw[g1] at k1;exact un rfl k1
 ·rw[v6 h1] at h0 ⊢;rw[oO,oO] at h0 ⊢
  cases hp:bE ps e.part with
  | none=>rw[hp] at h0;cases h0
  | some p=>
   rw[hp] at h0;have hpn:=(gy hp).2
   cases hh:(if e.op=2 then bE ps e.aT else some p) with
   | none=>rw[hh] at h0;cases h0
   | some h=>
    rw[hh] at h0;simp only at h0 ⊢;split at h0
    ·cases h0
    rename_i k;rw[v6 k];simp only[gv,not_or,f8] at k;obtain⟨x,x1,x2⟩:=RB hV he (by rw[hpn];exact hp) (λh2=>by rw[ut h2] at hh;exact⟨hh,hpn⟩) k.1 k.2 h0;rw[x1];exact fin x x2
def KC(a b:Int):ff a b<=a/\ff a b<=b:=by unfold ff;split<;>omega
def xO(a b:Int):a<=dV a b/\b<=dV a b:=by unfold dV;split<;>omega
variable{a:Int}{b:Int}
def xT{l:Int}(h1:l<=a)(h2:l<=b):l<=ff a b:=by unfold ff;split<;>assumption
def xS{l:Int}(h1:a<=l)(h2:b<=l):dV a b<=l:=by unfold dV;split<;>assumption
def Qa(h1:0<=a)(h2:a<=1000000000000)(h3:0<=b)(h4:b<=1000000000000):yh a b=a+b:=by
 unfold yh dO
 rw[show(sj (L4 .i64) (a+b)&&sj (a+b) (LU .i64))=true by
  simp only[aj,gh,wp,L4,LU]
  omega]
 rfl
def ua(h1:0<=a)(h2:a<=1000000000000)(h3:0<=b)(h4:b<=1000000000000):0<=gH a b/\gH a b<=1000000000000:=by
 unfold gH Ry;rw[Qa h1 h2 h3 h4];exact⟨hD (xT i4 i4) (xO _ _).2,xS i4 (KC _ _).2⟩
def yj{c d:Int}(h:r7 a b=true)(hc:0<=c)(hd:0<=d):r7 (eD gH a b c d).1 (eD gH a b c d).2=true:=by
 unfold r7 at h;simp only[aj,wp] at h;unfold eD;split
 ·rename_i k;unfold mU at k;simp only[aj,wp] at k;have p1:=ua h.1 i4 hc i4;have p2:=ua h.1 i4 hd i4;have p3:=ua (a:=b) i4 h.2.2 hc i4;have p4:=ua (a:=b) i4 h.2.2 hd i4;unfold r7;simp only[aj,wp];exact⟨xT (xT (xT p1.1 p2.1) p3.1) p4.1,hD (KC _ _).2 (xO _ _).2,xS (xS (xS p1.2 p2.2) p3.2) p4.2⟩
 ·rfl
def LC(f:bu)(u:iV):0<=(l8 f u).1/\0<=(l8 f u).2:=by
 unfold l8;split
 ·exact⟨(xO _ _).1,(xO _ _).1⟩
 ·exact⟨fi _,fi _⟩
def TJ{e:br}(he:dL e=true)(h4:e.op=4):(0<=e.u1/\0<=e.u2)/\(0<=e.u3/\0<=e.u4)/\0<=e.u5/\0<=e.u6:=by
 obtain⟨_,_,_,hm,_⟩:=qG he;unfold br.j7 at hm;rw[h4] at hm;simp only[show ¬(4:Int)=1 by decide,show ¬(4:Int)=2 by decide,show ¬(4:Int)=6 by decide,if_false,if_true,br.use,jD,aj,bc,wn] at hm;omega
structure RT (f:ak->ak):Prop where
 n:∀p,(f p).name=p.name
 k:∀p,(f p).kind=p.kind
 i:∀p,(f p).aT=p.aT
 s:∀p,(f p).slot=p.slot
 x:∀p,(f p).bq=p.bq
def yL{f:ak->ak}(hf:∀p,(f p).name=p.name)(n:List Nat):∀ps:List ak,bE (ps.map f) n=(bE ps n).map f
 | []=>rfl
 | p::ps=>by
  have ih:=yL hf n ps;unfold bE at ih ⊢;rw[cc,ch,ch,hf,ih];split<;>rfl
def L8{f:ak->ak}(hf:∀p,(f p).name=p.name)(ps:List ak):(ps.map f).map ak.name=ps.map ak.name:=by
 rw[List.map_map];exact List.map_congr_left λp _=>hf p
def MW{f:ak->ak}(hf:RT f)(hr:∀p,dJ c p=true->dJ c (f p)=true)(h:dM c ps=true):dM c (ps.map f)=true:=by
 obtain⟨hc,ho,hl⟩:=rf h;have hV:=(uT hc ho hl).1 h;refine(uT hc (by rw[L8 hf.n];exact ho) (by rw[ad];exact hl)).2 ?_
 have inv:∀{n p},bE (ps.map f) n=some p->∃q,bE ps n=some q/\f q=p:=λ{n p} k=>by
  rw[yL hf.n] at k
  cases hq:bE ps n with
  | none=>rw[hq] at k;cases k
  | some q=>rw[hq] at k;cases k;exact⟨q,rfl,rfl⟩
 refine⟨λk=>?_,λk=>?_,λk1 k2 hne=>?_⟩
 ·obtain⟨q,h1,rfl⟩:=inv k;rw[hf.n];exact hV.n h1
 ·obtain⟨q,h1,rfl⟩:=inv k;have hp:=hV.p h1;refine⟨hr q hp.r,by rw[hf.i,hf.s];exact hp.s,λk=>?_⟩;rw[hf.i] at k ⊢;obtain⟨g,g1,g2,g3,g4⟩:=hp.h k;exact⟨f g,by rw[yL hf.n,g1];rfl,by rw[hf.x];exact g2,by rw[hf.x];exact g3,by rw[hf.k,hf.k,hf.s];exact g4⟩
 ·obtain⟨q,h1,rfl⟩:=inv k1;obtain⟨r,h2,rfl⟩:=inv k2;unfold E1;rw[hf.i,hf.i,hf.s,hf.s];exact hV.u h1 h2 hne
def I1{p:ak}(u:iV)(d:Int×Int)(h:dJ c p=true)(h1:0<=u.u1/\0<=u.u2)(h2:0<=u.u3/\0<=u.u4)(h3:0<=d.1/\0<=d.2):dJ c (td u d p)=true:=by
 unfold dJ at h ⊢;simp only[aj] at h ⊢;obtain⟨a1,a2,a3,a4,a5,a6,a7,a8,b1,b2,b3⟩:=h;exact⟨a1,a2,a3,a4,a5,a6,a7,a8,yj b1 h1.1 h1.2,yj b2 h2.1 h2.2,yj b3 h3.1 h3.2⟩
def JT(dmg:bu)(ins:List (List Nat))(e:br):RT (uS dmg ins e):=by
 constructor<;>intro p<;>unfold uS<;>split<;>rfl
def MV{dmg:bu}{e:br}(he:dL e=true)(h4:e.op=4)(h:dM c ps=true):dM c (xv dmg ps e)=true:=by
 obtain⟨h1,h2,_⟩:=TJ he h4;refine MW (JT _ _ _) (λp hp=>?_) h;unfold uS;split
 ·exact I1 _ _ hp h1 h2 (LC _ _)
 ·exact hp
def Kn(u:Bool)(c:List aM)(dmg:bu):List br->List ak->List ak×Int
 | [],s=>(s,0)
 | e::r,s=>if (aR c s e).2=0 then Kn u c dmg r (if u=true/\e.op=4 then xv dmg (aR c s e).1 e else (aR c s e).1) else ([],(aR c s e).2)
def I3{c:List aM}{dmg:bu}:∀(l:List br) (i:Nat) (s:List ak),(lB c dmg i l s).1=(Kn true c dmg l s).1
 | [],_,_=>rfl
 | e::r,i,s=>by
  rw[lB,Kn];split
  ·split
   ·rename_i h;rw[ut ⟨rfl,h⟩];exact I3 r _ _
   ·rename_i h;rw[v6 λk=>h k.2];exact I3 r _ _
  ·rfl
def Q0{u:Bool}{dmg:bu}{s:List ak}{e:br}(hl:s.length<20000)(h0:(aR c s e).2=0):dM c (if u=true/\e.op=4 then xv dmg (aR c s e).1 e else (aR c s e).1)=true/\(if u=true/\e.op=4 then xv dmg (aR c s e).1 e else (aR c s e).1).length<=s.length+1:=by
 obtain⟨⟨h1,h2⟩,he⟩:=FJ hl h0;split
 ·rename_i k;exact⟨MV he k.2 h1,by unfold xv;rw[ad];exact h2⟩
 ·exact⟨h1,h2⟩
end Go.Proofs
