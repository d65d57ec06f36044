/- Lemmas of this claim, each with its conditions. -/
import Derived.Test.YtchdmmkclcnmnaaGreatA21
import Derived.Test.YtchdmmkclcnmnaaGreatA19
import Derived.Test.YtchdmmkclcnmnaaGreatA15
import Derived.Test.YtchdmmkclcnmnaaGreatA8
import Derived.Shelf.SlGeneric
import Derived.Shelf.SortM.Plain
import Derived.Shelf.SortM.SortNone
import Derived.Ground.SlgmProg
import Derived.Test.YtchdmmkclcnmnaaGreatProg
set_option linter.all false
open List (flatMap_cons take_zero range)
open List renaming getElem?_eq_getElem -> aa, length_map -> ac, take_of_length_le -> af, getD_eq_getElem?_getD -> aj, getElem?_map -> ax, replicate -> ay, length_append -> aS, getElem?_eq_none -> a6, length_set -> ba, flatMap_append -> bb, set_eq_take_append_cons_drop -> bc, length_take -> bd, getElem?_drop -> bi, mem_of_getElem? -> bo, append_nil -> bs, drop_of_length_le -> bv, getElem?_set_self -> bw, length_cons -> bx, length_replicate -> b5, replicate_zero -> b7, flatten_cons -> b9, take_length -> cb, all_append -> cc, map_append -> cd, drop_drop -> ce, length -> cf, map_cons -> ci
open Nat renaming mul_one -> ad, le_refl -> al, reduceEqDiff -> ap, reduceLeDiff -> aR, reduceAdd -> be, reduceMul -> bh, reduceLT -> bk, min_eq_left -> b0, zero_le -> b8, add_zero -> ca, sub_self -> cj, sub_zero -> ck, succ_pos -> cl
open Option renaming map_some -> a7, bind_some -> a8
open Bool renaming not_eq_true' -> bt
open Array renaming getElem?_modify -> b6
namespace Go.Proofs
open Go.Shelf
def xH:Go.Shelf.Ren:=⟨λ| 6=>96 | 8=>113 | 9=>139 | 19=>161 | 20=>162 | 21=>194 | 22=>195 | 23=>196 | 24=>197 | 25=>198 | 26=>199 | 27=>200 | 28=>201 | 29=>202 | 36=>225 | 31=>226 | 32=>227 | 37=>228 | 38=>229 | 39=>185 | 41=>242 | n=>n,λ| 27=>110 | 29=>9 | 3=>3 | 32=>209 | 26=>110 | 0=>0 | 44=>259 | 46=>261 | 4=>4 | 36=>286 | 35=>285 | 41=>176 | 5=>5 | 9=>9 | 53=>313 | 57=>307 | 63=>330 | 64=>326 | n=>n,λ| n=>n⟩
def w5:Go.Proofs.SlLaysM.n6 Tryz.prog xH:={
 mixed:=by kernel_rfl
 f6:=⟨Tryz.f96.name,by decide,Tryz.func96.trans (congrArg some (by kernel_rfl))⟩
 f8:=Tryz.func113.trans (congrArg some (by kernel_rfl))
 f9:=⟨Tryz.f139.name,by decide,Tryz.func139.trans (congrArg some (by kernel_rfl))⟩
 f19:=Tryz.func161.trans (congrArg some (by kernel_rfl))
 f20:=Tryz.func162.trans (congrArg some (by kernel_rfl))
 f21:=⟨Tryz.f194.name,by decide,Tryz.func194.trans (congrArg some (by kernel_rfl))⟩
 f22:=⟨Tryz.f195.name,by decide,Tryz.func195.trans (congrArg some (by kernel_rfl))⟩
 f23:=⟨Tryz.f196.name,by decide,Tryz.func196.trans (congrArg some (by kernel_rfl))⟩
 f24:=⟨Tryz.f197.name,by decide,Tryz.func197.trans (congrArg some (by kernel_rfl))⟩
 f25:=⟨Tryz.f198.name,by decide,Tryz.func198.trans (congrArg some (by kernel_rfl))⟩
 f26:=⟨Tryz.f199.name,by decide,Tryz.func199.trans (congrArg some (by kernel_rfl))⟩
 f27:=⟨Tryz.f200.name,by decide,Tryz.func200.trans (congrArg some (by kernel_rfl))⟩
 f28:=⟨Tryz.f201.name,by decide,Tryz.func201.trans (congrArg some (by kernel_rfl))⟩
 f29:=⟨Tryz.f202.name,by decide,Tryz.func202.trans (congrArg some (by kernel_rfl))⟩
 f31:=Tryz.func226.trans (congrArg some (by kernel_rfl))
 f32:=Tryz.func227.trans (congrArg some (by kernel_rfl))
 f36:=⟨Tryz.f225.name,by decide,Tryz.func225.trans (congrArg some (by kernel_rfl))⟩
 f37:=⟨Tryz.f228.name,by decide,Tryz.func228.trans (congrArg some (by kernel_rfl))⟩
 f38:=⟨Tryz.f229.name,by decide,Tryz.func229.trans (congrArg some (by kernel_rfl))⟩
 f39:=⟨Tryz.f185.name,by decide,Tryz.func185.trans (congrArg some (by kernel_rfl))⟩
 f41:=⟨Tryz.f242.name,by decide,Tryz.func242.trans (congrArg some (by kernel_rfl))⟩
 t0:=Tryz.underlying0
 a0:=Tryz.isAgg0
 z0:=Tryz.sizeOf0
 v0:=Tryz.zeroValue0
 t3:=Tryz.underlying3
 a3:=Tryz.isAgg3
 z3:=Tryz.sizeOf3
 v3:=Tryz.zeroValue3
 t4:=Tryz.underlying4
 a4:=Tryz.isAgg4
 z4:=Tryz.sizeOf4
 v4:=Tryz.zeroValue4
 t5:=Tryz.underlying5
 a5:=Tryz.isAgg5
 z5:=Tryz.sizeOf5
 v5:=Tryz.zeroValue5
 t9:=Tryz.underlying9
 a9:=Tryz.isAgg9
 z9:=Tryz.sizeOf9
 v9:=Tryz.zeroValue9
 t26:=Tryz.underlying110
 a26:=Tryz.isAgg110
 z26:=Tryz.sizeOf110
 v26:=Tryz.zeroValue110
 t27:=Tryz.underlying110
 a27:=Tryz.isAgg110
 z27:=Tryz.sizeOf110
 v27:=Tryz.zeroValue110
 t29:=Tryz.underlying9
 a29:=Tryz.isAgg9
 z29:=Tryz.sizeOf9
 v29:=Tryz.zeroValue9
 t32:=Tryz.underlying209
 a32:=Tryz.isAgg209
 z32:=Tryz.sizeOf209
 v32:=Tryz.zeroValue209
 t35:=Tryz.underlying285
 a35:=Tryz.isAgg285
 z35:=Tryz.sizeOf285
 v35:=Tryz.zeroValue285
 t36:=Tryz.underlying286
 a36:=Tryz.isAgg286
 z36:=Tryz.sizeOf286
 v36:=Tryz.zeroValue286
 t41:=Tryz.underlying176
 a41:=Tryz.isAgg176
 z41:=Tryz.sizeOf176
 v41:=Tryz.zeroValue176
 t44:=Tryz.underlying259
 a44:=Tryz.isAgg259
 z44:=Tryz.sizeOf259
 v44:=Tryz.zeroValue259
 t46:=Tryz.underlying261
 a46:=Tryz.isAgg261
 z46:=Tryz.sizeOf261
 v46:=Tryz.zeroValue261
 t53:=Tryz.underlying313
 a53:=Tryz.isAgg313
 z53:=Tryz.sizeOf313
 v53:=Tryz.zeroValue313
 t57:=Tryz.underlying307
 a57:=Tryz.isAgg307
 z57:=Tryz.sizeOf307
 v57:=Tryz.zeroValue307
 t63:=Tryz.underlying330
 a63:=Tryz.isAgg330
 z63:=Tryz.sizeOf330
 v63:=Tryz.zeroValue330
 t64:=Tryz.underlying326
 a64:=Tryz.isAgg326
 z64:=Tryz.sizeOf326
 v64:=Tryz.zeroValue326 }
open Go.Ev Go.RowKit Go.Shelf Go.Lib Go.Sort
set_option maxRecDepth 100000
def Dx(x y:List UInt8):decide (x<=y)=!gJ (y.map (·.toNat)) (x.map (·.toNat)):=by
 rw[oO,bytesLess_eq];by_cases h:y<x
 ·have:¬x<=y:=λh2=>h2 h;simp[h,this]
 ·have:x<=y:=h;simp[h,this]
def UE:Option Value->ByteArray
 | some (.string s)=>s
 | _=>ByteArray.empty
def H0(ss:List (List UInt8)):List (List Nat):=ss.map λs=>s.map (·.toNat)
set_option maxHeartbeats 1000000 in
def w4(ks:List (List Nat))(v:AV)(Z:Nat)(h:Ev.H)(hout:M4 Z h v 1 (ks.map p6))(hlen:ks.length<=1000000):
 dC Tryz.prog (.func 96) [v] h (λr h'=>r=.bE []/\∃ks':List (List Nat),ks'.Perm ks/\q0 ks'/\M4 Z h' v 1 (ks'.map p6)/\Over Z h h'/\∀id n e c,v=.slice (some (id,0)) n e c->h.store id 0 (ks'.map p6).flatten=some h'):=by
 intro σ w args' hv hr;obtain⟨x,rfl,hx⟩:=Q0 hv;rw[eb dG Tryz.func96 (by rfl)]
 rcases hout.2 with⟨e,e2⟩ | ⟨id,cg,fx,fy,hne,e2,ho,hfx,hxy,z1,z2,z3,z4,l1,l2,l3,l4⟩
 ·subst e2
  have hts:ks=[]:=by simpa using e
  subst hts
  cases hx with
  | ik hl=>
   refine Calls.mono (AnyM.slices_Sort_string_none w5 none 0 w) λe w' ⟨he,hw⟩=>?_;subst hw;exact⟨_,he,.bE [],h,⟨rfl,[],.refl _,List.Pairwise.nil,hout,Over.refl _ _,λ_ _ _ _ he=>by cases he⟩,σ,V.kn,hr,.refl _ _ _⟩
 ·subst e2
  have hpos:0<ks.length:=by
   cases ks with
   | nil=>exact t8 rfl hne
   | cons=>exact cl _
  rw[ac] at hx
  cases hx with
  | @slice _ _ _ _ _ a p c hs hl hrr hcc ha=>
  have ha:a=⟨p.b,p.d+0,none⟩:=ha.resolve_right (by omega);subst ha;obtain⟨q,carr,et,hq,hb,hsz,hlen',hVc⟩:=hr.cells ho;rw[hs] at hq;cases hq
  have hfl:(ks.map p6).flatten.length=ks.length*1:=by
   have:=jN (s:=1) hout.1;rw[ac] at this;exact this
  have hpl:=hr.lt ho hs
  let d:List (List UInt8):=(range ks.length).map λi=>(UE carr[p.d+i]?).data.toList
  have hdl0:d.length=ks.length:=by simp[d]
  have hspec:∀i,i<ks.length->∃s:ByteArray,carr[p.d+i]?=some (.string s)/\ks[i]?=some (s.data.toList.map (·.toNat))/\d[i]?=some s.data.toList:=λi hi=>by
   have hki:ks[i]?=some ks[i]:=aa hi
   have hg:(ks.map p6)[i]?=some (p6 ks[i]):=by rw[ax,hki];rfl
   have h0:=pq hout.1 hg (k:=0) (by omega);obtain⟨v0,g0,V0⟩:=hVc _ _ (h0.trans (show(p6 ks[i])[0]?=some (.str ks[i]) from rfl));rw[ad,ca] at g0;generalize hkk:ks[i]=kk at V0
   cases V0 with
   | @str _ s0 e0=>
    refine⟨s0,g0,by rw[hki,hkk,e0],?_⟩;show((range ks.length).map _)[i]?=_;rw[ax,List.getElem?_range hi,a7,g0];rfl
  have hH:Holds encStr w p.b (p.d+0) d.toArray:=by
   intro j hj
   have hj':j<ks.length:=by simpa [hdl0] using hj
   obtain⟨s,g1,g2,g3⟩:=hspec j hj';refine⟨?_,vp hb⟩;rw[cell_of hb,ca,g1];rw[getElem!_pos d.toArray j hj]
   have:d.toArray[j]=s.data.toList:=by
    have h1:=aa (l:=d) (i:=j) (by omega);rw[g3] at h1;simpa using(Option.some.inj h1).symm
   rw[this]
  have hmain:=AnyM.slices_Sort_string w5 p.b (p.d+0) c d w hH hpl (by rw[hdl0];omega);rw[hdl0] at hmain;change Calls Tryz.prog 96 _ _ _ at hmain;refine Calls.mono hmain ?_;rintro e w' ⟨rfl,n,os,rfl⟩;obtain⟨d',hd'⟩:∃d',d'=d.mergeSort λx y=>decide (x<=y):=⟨_,rfl⟩;rw[<-hd']
  have hp3:d'.Perm d:=by rw[hd'];exact List.mergeSort_perm _ _
  have hp1:d'.length=ks.length:=by rw[hp3.length_eq,hdl0]
  have hsorted:d'.Pairwise λx y=>decide (x<=y)=true:=by
   rw[hd'];refine List.pairwise_mergeSort ?_ ?_ d
   ·intro a b c h1 h2;rw[Dx] at *;simp only[bt] at *;cases h:gJ (c.map (·.toNat)) (a.map (·.toNat))
    ·rfl
    ·rcases ma (a.map (·.toNat)) (b.map (·.toNat)) with g | g | g
     ·have:=jx h g;rw[h2] at this;cases this
     ·rw[g,h2] at h;cases h
     ·rw[h1] at g;cases g
   ·intro a b;rw[Dx,Dx]
    rcases ma (a.map (·.toNat)) (b.map (·.toNat)) with g | g | g
    ·rw[rp g];rfl
    ·rw[g,kO];rfl
    ·rw[rp g];simp
  have hdl:H0 d=ks:=by
   apply List.ext_getElem?;intro i;unfold H0;by_cases hi:i<ks.length
   ·obtain⟨s,g1,g2,g3⟩:=hspec i hi;rw[ax,g3,g2];rfl
   ·rw[a6 (by simp[hdl0];omega),a6 (by omega)]
  have hperm:(H0 d').Perm ks:=by rw[<-hdl];exact hp3.map _
  have hsx:q0 (H0 d'):=by
   unfold q0 H0;rw[List.pairwise_map];refine hsorted.imp ?_;intro a b h1;rw[Dx] at h1;simpa using h1
  have hlen2:(H0 d').length=ks.length:=by unfold H0;rw[ac,hp1]
  have hw3:=Af (H0 d')
  have hb1:(putRow encStr (Sort.ahead w n) p.b (p.d+0) d'.toArray).heap[p.b]?=some (.cells (putCells encStr (p.d+0) d'.toArray carr) et (0,0)):=by
   unfold putRow mapBlock;simp only[b6,if_true];rw[show(Sort.ahead w n).heap[p.b]?=some (.cells carr et (0,0)) from hb];rfl
  have hoth:∀b,b≠p.b->(putRow encStr (Sort.ahead w n) p.b (p.d+0) d'.toArray).heap[b]?=w.heap[b]?:=λb hbb=>by
   unfold putRow mapBlock;simp only[b6];rw[un (λe=>hbb e.symm)];rfl
  have hVn:∀(i:Nat) (a:AV),((H0 d').map p6).flatten[i]?=some a->∃v,(putCells encStr (p.d+0) d'.toArray carr)[p.d+i]?=some v/\V σ a v:=by
   intro i a hia
   have hil:i<ks.length:=by
    have:=Iw hia;rw[jN hw3,ac,hlen2] at this;omega
   have hj:i<d'.length:=by omega
   have hrow:((H0 d').map p6)[i]?=some (p6 (d'[i].map (·.toNat))):=by
    unfold H0;rw[ax,ax,aa hj];rfl
   have hat:=pq hw3 hrow (k:=0) (by omega);rw[ad,ca,hia] at hat
   have hcl:p.d+i<carr.size:=by omega
   have hput:(putCells encStr (p.d+0) d'.toArray carr)[p.d+i]?=some (encStr d'[i]):=by
    unfold putCells;rw[Array.getElem?_mapIdx,Array.getElem?_eq_getElem hcl,a7,ul ⟨by omega,by simp;omega⟩];rw[show p.d+i-(p.d+0)=i by omega,getElem!_pos d'.toArray i (by simpa using hj)];simp
   refine⟨_,hput,?_⟩;cases hat;exact .str rfl
  obtain⟨r1,r2⟩:=hr.rewrite ho hs (cs':=((H0 d').map p6).flatten) (by rw[jN hw3,ac,hlen2,hfl]) hb hb1 (by unfold putCells;rw[Array.size_mapIdx]) hVn hoth (by unfold putRow mapBlock;simp[Sort.ahead]) rfl rfl rfl
  have hbel:Below (putRow encStr (Sort.ahead w n) p.b (p.d+0) d'.toArray).heap.size (putRow encStr (Sort.ahead w n) p.b (p.d+0) d'.toArray) (grow (putRow encStr (Sort.ahead w n) p.b (p.d+0) d'.toArray) os):=
   ⟨rfl,rfl,rfl,by rw[size_grow];omega,λk hk=>by unfold grow;simp only;rw[Array.getElem?_append_left hk]⟩
  have hkeep:=o8 r1 hbel;obtain⟨ao1,ao2⟩:=sg (id:=id) hfx z2 z3 z4
  have hne':(H0 d').map p6≠[]:=by
   intro e;have:=congrArg cf e;rw[ac,hlen2] at this;simp at this;rw[this] at hpos;simp at hpos
  refine⟨_,rfl,.bE [],_,⟨rfl,H0 d',hperm,hsx,⟨hw3,.inr ⟨id,cg,id,id,hne',?_,?_,?_,.inl rfl,z1,z1,z1,z4,?_,?_,?_,?_⟩⟩,?_,?_⟩,σ,V.kn,hkeep.1,r2.trans hkeep.2⟩
  ·rw[ac,ac,hlen2]
  ·exact cX _ _ _
  ·exact BE hfx
  ·show id<(h.alone id cg).next;rw[ao2];exact l1
  ·show id<(h.alone id cg).next;rw[ao2];exact l1
  ·show id<(h.alone id cg).next;rw[ao2];exact l1
  ·show cg<(h.alone id cg).next;rw[ao2];exact l4
  ·refine ao1.trans ⟨al _,λj hj=>bm _ _ (by omega),λ_ _=>rfl,λhl=>ru (by omega)⟩
  ·intro id2 n2 e2 c2 he;cases he
   have hfl2:((H0 d').map p6).flatten.length=(ks.map p6).flatten.length:=by rw[jN hw3,ac,hlen2,hfl]
   have hone:((H0 d').map p6).flatten.all jZ=true:=by
    rw[List.all_eq_true];intro x hx;rw[List.mem_flatten] at hx;obtain⟨r,hr1,hr2⟩:=hx;obtain⟨k,_,rfl⟩:=List.mem_map.1 hr1;rw[List.mem_singleton.1 hr2];rfl
   unfold H.store;rw[ho];simp only;rw[hfl2,Nat.zero_add,eN (al _),hone,Bool.and_self,ai,take_zero,List.nil_append,bv (al _),bs]
open Go.Ev
def y4(a b:List Nat):Bool:=!gJ b a
def LY(a b c:List Nat)(h1:y4 a b=true)(h2:y4 b c=true):y4 a c=true:=by
 unfold y4 at *;simp only[bt] at *;cases h:gJ c a
 ·rfl
 ·rcases ma a b with g | g | g
  ·have:=jx h g;rw[h2] at this;cases this
  ·rw[g,h2] at h;cases h
  ·rw[h1] at g;cases g
def LX(a b:List Nat):(y4 a b||y4 b a)=true:=by
 unfold y4
 rcases ma a b with g | g | g
 ·rw[rp g];rfl
 ·rw[g,kO];rfl
 ·rw[rp g];simp
def F0{a b:List Nat}(h1:y4 a b=true)(h2:y4 b a=true):a=b:=by
 unfold y4 at h1 h2;simp only[bt] at h1 h2
 rcases ma a b with g | g | g
 ·rw[h2] at g;cases g
 ·exact g
 ·rw[h1] at g;cases g
def LS(x:List Nat):List (List Nat)->List (List Nat)
 | []=>[x]
 | y::l=>cond (y4 x y) (x::y::l) (y::LS x l)
def dM:List (List Nat)->List (List Nat)
 | []=>[]
 | x::l=>LS x (dM l)
def RB(x:List Nat):∀l,(LS x l).Perm (x::l)
 | []=>.refl _
 | y::l=>by
  rw[LS];cases y4 x y
  ·exact((RB x l).cons y).trans (.swap x y l)
  ·exact .refl _
def qP:∀l,(dM l).Perm l
 | []=>.refl _
 | x::l=>(RB x _).trans ((qP l).cons x)
def SE(x:List Nat):∀l,l.Pairwise (λa b=>y4 a b=true)->(LS x l).Pairwise λa b=>y4 a b=true
 | [],_=>List.pairwise_singleton ..
 | y::l,h=>by
  obtain⟨h1,h2⟩:=List.pairwise_cons.1 h;rw[LS];cases g:y4 x y
  ·refine List.pairwise_cons.2 ⟨λz hz=>?_,SE x l h2⟩
   rcases List.mem_cons.1 ((RB x l).mem_iff.1 hz) with rfl | hz
   ·have:=LX z y;rw[g] at this;simpa using this
   ·exact h1 z hz
  ·refine List.pairwise_cons.2 ⟨λz hz=>?_,h⟩
   rcases List.mem_cons.1 hz with rfl | hz
   ·exact g
   ·exact LY _ _ _ g (h1 z hz)
def GW:∀l,(dM l).Pairwise λa b=>y4 a b=true
 | []=>.nil
 | x::l=>SE x _ (GW l)
def I5{l ks:List (List Nat)}(hp:ks.Perm l)(hs:q0 ks):ks=dM l:=by
 have h2:(dM l).Pairwise λa b=>y4 a b=true:=GW l
 have h1:ks.Pairwise λa b=>y4 a b=true:=by
  unfold q0 at hs;refine hs.imp ?_;intro a b h;unfold y4;rw[h];rfl
 have hq:ks.Perm (dM l):=hp.trans (qP l).symm;exact List.Perm.eq_of_pairwise (λa b _ _ h1 h2=>F0 h1 h2) h1 h2 hq
def K4(l:List (List Nat)):(l.map p6).flatten=l.map AV.str:=by
 induction l with
 | nil=>rfl
 | cons a l ih=>rw[ci,b9,ih];rfl
def yI:∀l:List (List Nat),gY (l.flatMap (aA ae))=some (l.map AV.str)
 | []=>rfl
 | a::l=>by
  show gY (ae a::l.flatMap (aA ae))=_;rw[gY,cG,a8,yI l];rfl
def sS(l:List (List Nat))(hlen:l.length<=1000000)(hne:l≠[]):SC Tryz.prog 96 [.buf 0 l.length 1 none] [.cells (l.flatMap (aA ae))] [] (λr S'=>r=.bE []/\S'=[.cells ((dM l).flatMap (aA ae))]):=by
 have hl2:(dM l).length=l.length:=(qP l).length_eq;refine SC.row (by rw[l9,l9,hl2]) (λθ ρ xs hx=>mn hx (zI _)) ?_;intro E θ ρ h avs asx cg hl hR hA ho hV ⟨⟨x,y⟩,hf,hxy,b1,b2,b3,b4⟩;have has:=oI hV (yI l);subst has;rw[aK] at hA;obtain⟨a,r,rfl,hA1,hA2⟩:=hA;rw[aQ] at hA2;subst hA2;rw[VS] at hA1;subst hA1
 have hout:M4 0 h (.slice (some ((θ 0).id,0)) l.length 1 none) 1 (l.map p6):=by
  refine⟨Af l,.inr ⟨(θ 0).id,cg,x,y,by simpa using hne,by rw[ac],by rw[K4];exact ho,hf,hxy,b8 _,b8 _,b8 _,b8 _,b4,b1,b2,b3⟩⟩
 refine(w4 l _ 0 h hout hlen).mono ?_;rintro v h' ⟨rfl,ks',hp,hs,_,_,hst⟩;have:=I5 hp hs;subst this;refine⟨by rw[VS];exact⟨[],rfl,by rw[aQ]⟩,_,?_,hst _ _ _ _ rfl⟩;rw[K4];exact tx (yI _)
def eZ(l:List (List Nat)):List (List Nat):=l.foldl (λacc x=>if acc.getLast?=some x then acc else acc++[x]) []
def sq(l:List (List Nat))(x:List Nat):eZ (l++[x])=if (eZ l).getLast?=some x then eZ l else eZ l++[x]:=by
 unfold eZ;rw[List.foldl_append];rfl
def Ij(l:List (List Nat))(x:List Nat):(eZ (l++[x])).getLast?=some x:=by
 rw[sq];by_cases h:(eZ l).getLast?=some x
 ·rw[ul h];exact h
 ·rw[un h,List.getLast?_append];rfl
def br{α:Type}{l:List α}{i:Nat}{x:α}(h:l[i]?=some x):l.take (i+1)=l.take i++[x]:=by
 rw[List.take_add_one,h];rfl
def yw{l:List (List Nat)}{i:Nat}{z y:List Nat}(hz:l[i]?=some z)(hy:l[i+1]?=some y):eZ (l.take (i+1+1))=if z=y then eZ (l.take (i+1)) else eZ (l.take (i+1))++[y]:=by
 have h1:=Ij (l.take i) z;rw[br hy,sq,br hz,h1];by_cases h:z=y
 ·rw[ul h,ul (by rw[h])]
 ·rw[un h,un (λe=>h (Option.some.inj e))]
def vT:∀{c:List (List Nat)} {i:Nat} {x:List Nat},c[i]?=some x->(c.flatMap (aA ae))[i]?=some (ae x)
 | [],i,x,h=>by simp at h
 | a::c,0,x,h=>by
  simp only[List.getElem?_cons_zero,Option.some.injEq] at h;subst h;rfl
 | a::c,i+1,x,h=>by
  simp only[List.getElem?_cons_succ] at h;exact vT (c:=c) h
def ur:∀(c:List (List Nat)) (i:Nat),(c.flatMap (aA ae)).take i=(c.take i).flatMap (aA ae)
 | [],i=>by simp
 | a::c,0=>rfl
 | a::c,i+1=>by
  show(ae a::c.flatMap (aA ae)).take (i+1)=_;rw[List.take_succ_cons,ur c i];rfl
def An:∀(c:List (List Nat)) (i:Nat),(c.flatMap (aA ae)).drop i=(c.drop i).flatMap (aA ae)
 | [],i=>by simp
 | a::c,0=>rfl
 | a::c,i+1=>by
  show(ae a::c.flatMap (aA ae)).drop (i+1)=_;rw[List.drop_succ_cons,An c i];rfl
def Pc{α:Type}{c:List α}{i:Nat}(y:α)(h:i<c.length):c.set i y=c.take i++(y::c.drop (i+1)):=by
 rw[bc,ul h]
def QL{c:List (List Nat)}{i:Nat}(y:List Nat)(h:i<c.length):(c.flatMap (aA ae)).take i++(ae y::(c.flatMap (aA ae)).drop (i+1))=(c.set i y).flatMap (aA ae):=by
 rw[Pc y h,bb,ur,An];rfl
def Ow(n:Nat):(rep [AV.str []] n).all jZ=true:=by
 induction n with
 | zero=>rfl
 | succ n ih=>rw[rep,cc,ih];rfl
def Bm(l:List (List Nat))(hlen:l.length<=1000000)(hne:l≠[]):SC Tryz.prog 233 [.buf 0 l.length 1 none] [.cells (l.flatMap (aA ae))] [] (λr S'=>r=.buf 0 (eZ l).length 1 none/\S'=[.cells ((eZ l++ay (l.length-(eZ l).length) []).flatMap (aA ae))]):=by
 have h0:0<l.length:=by
  cases l with
  | nil=>exact t8 rfl hne
  | cons a l=>exact cl _
 refine GU 61 Tryz.func233 ?_
 have fin:eZ l=l->eZ l++ay (l.length-(eZ l).length) []=l:=λh=>by rw[h,cj,b7,bs]
 obtain⟨x0,hx0⟩:∃x,l[0]?=some x:=⟨l[0],aa h0⟩
 have ht1:eZ (l.take 1)=l.take 1:=by
  rw[br hx0,take_zero];rfl
 by_cases h2:l.length<2
 ·have hc:eZ l=l:=by
   have:=ht1;rw[af (by omega)] at this;exact this
  refine zV ?_;refine aC (show decide ((l.length:Int)<2)=true by simp only[wr];omega) ?_;refine cL ?_;refine zE ?_;exact zP [.tmp 2] (hq:=by (try simp only[dh,aW]);first | done | (rw[fin hc,hc];exact⟨rfl,rfl⟩))
 refine zV ?_;refine aC (show decide ((l.length:Int)<2)=false by simp only[wp];omega) ?_;refine iK ?_
 (repeat refine ar.seq ?_)
 refine ar.block (ar.loop (λm st=>∃k:Nat,1<=k/\k<=l.length/\m=l.length-k/\eZ (l.take k)=l.take k/\st=⟨[(0,.buf 0 l.length 1 none),(3,ab k),(1000000,.ptr 0 0)],61,[.cells (l.flatMap (aA ae))],[]⟩) (l.length-1) zH ⟨1,by omega,by omega,rfl,ht1,rfl⟩ (by rintro m st ⟨k,_,_,_,_,rfl⟩;rfl) ?_);rintro m st ⟨k,hk1,hk,rfl,hall,rfl⟩;refine zV ?_;by_cases hlt:k<l.length;rotate_left
 ·rw[show decide ((k:Int)<(l.length:Int))=false by simp only[wp];omega];refine dZ ?_;refine zV ?_
  have hc:eZ l=l:=by
   rw[af (by omega)] at hall;exact hall
  refine zE ?_;exact zP [.tmp 2] (hq:=by (try simp only[dh,aW]);first | done | (rw[fin hc,hc];exact⟨rfl,rfl⟩))
 rw[show decide ((k:Int)<(l.length:Int))=true by simp only[wr];omega];obtain⟨j,rfl⟩:∃j,k=j+1:=⟨k-1,by omega⟩;obtain⟨x,hx⟩:∃x,l[j]?=some x:=⟨l[j],aa (by omega)⟩;obtain⟨y,hy⟩:∃y,l[j+1]?=some y:=⟨l[j+1],aa hlt⟩
 have hj:j<l.length:=by omega
 refine eQ ?_;refine zs ?_;refine oz [0,0,3,7,0,0,32,112,240,511] ?_;refine ni (n7 hlt @ad (vT hy) (Lo (show -9223372036854775808<=((j+1:Nat):Int)-1/\((j+1:Nat):Int)-1<=9223372036854775807 from⟨by omega,by omega⟩)) (show((j+1:Nat):Int)-1=(j:Int) from by omega) hj (vT hx)) ?_;refine zM ?_;have hst:=yw hx hy;cases g:decide (y=x)
 ·have g':¬x=y:=λe=>by rw[e] at g;simp at g
  refine zN ?_;refine aC (p9 (show -9223372036854775808<=((j+1:Nat):Int)+1/\((j+1:Nat):Int)+1<=9223372036854775807 from⟨by omega,by omega⟩)) ?_;refine⟨l.length-(j+1+1),_,by omega,zH,j+1+1,by omega,by omega,rfl,?_,rfl⟩;rw[hst,un g',hall,<-br hy]
 have g':x=y:=by simpa using(ww g).symm
 refine zY ?_
 have hc0:eZ (l.take (j+1+1))=l.take (j+1):=by rw[hst,ul g',hall]
 refine aC (n2 (Fh hk) @ad) ?_;refine zV ?_
 (repeat refine ar.seq ?_)
 refine ar.block (ar.loop (λm st=>∃(k2 k:Nat) (c:List (List Nat)),(1<=k2/\k2<=l.length-(j+1))/\(j+1<=k/\k<=j+k2)/\m=l.length-k2/\(c.length=l.length/\c.take k=eZ (l.take (j+1+k2))/\c.drop k=l.drop k)/\st=⟨[(0,.buf 0 l.length 1 none),(3,ab k),(4,.sub 0 (j+1) (l.length-(j+1)) 1 none),(5,ab k2),(1000000,.ptr 0 0)],61,[.cells (c.flatMap (aA ae))],[]⟩) (l.length-1) zH ⟨1,j+1,l,⟨by omega,by omega⟩,⟨by omega,by omega⟩,rfl,⟨rfl,hc0.symm,rfl⟩,rfl⟩ (by rintro m st ⟨k2,k,c,_,_,_,_,rfl⟩;rfl) ?_);rintro m st ⟨k2,k,c,⟨hk21,hk22⟩,⟨hkl,hku⟩,rfl,⟨hcl,hct,hcd⟩,rfl⟩;refine zV ?_;by_cases hlt2:k2<l.length-(j+1);rotate_left
 ·rw[show decide ((k2:Int)<((l.length-(j+1):Nat):Int))=false by simp only[wp];omega];refine dZ ?_
  have hkn:k<=l.length:=by omega
  have hcN:eZ l=c.take k:=by
   rw[hct,af (by omega)]
  have hlN:(eZ l).length=k:=by rw[hcN,bd];omega
  have hrest:(c.flatMap (aA ae)).take k++((rep [AV.str []] (l.length-k)).map SV.a++(c.flatMap (aA ae)).drop (k+(l.length-k)))=(eZ l++ay (l.length-(eZ l).length) []).flatMap (aA ae):=by
   rw[hlN,C1,ur,An,bv (by omega),bb,<-hcN];simp
  by_cases hz:l.length-k=0
  ·have hk3:k=l.length:=by omega
   refine zs ?_;refine ar.r0 (by rfl) (by simp only[bP,bg,ak,aw,a8,a7,↓reduceIte,ap,be,bh,aR,bk,ai,an,aU,uX hkn,ad,hz];first | done | rfl) ?_;refine aC (n2 (Sx hkn) @ck) ?_;refine zE ?_;exact zP [.tmp 2] (hq:=by (try simp only[dh,aW]);first | done | (rw[hlN];refine⟨rfl,?_⟩;rw[hz,b7,bs,hcN,hk3,af (by omega)]))
  ·refine zs ?_;refine ar.r0 (by rfl) (by simp only[bP,bg,ak,aw,a8,a7,↓reduceIte,ap,be,bh,aR,bk,ai,an,aU,uX hkn,ad,hz,Ow,l9,hcl,show k+(l.length-k)<=l.length by omega,hrest];first | done | rfl) ?_;refine aC (n2 (Sx hkn) @ck) ?_;refine zE ?_;exact zP [.tmp 2] (hq:=by (try simp only[dh,aW]);first | done | (rw[hlN];first | exact⟨rfl,rfl⟩ | exact⟨rfl,trivial⟩ | exact⟨trivial,trivial⟩))
 rw[show decide ((k2:Int)<((l.length-(j+1):Nat):Int))=true by simp only[wr];omega];obtain⟨i,rfl⟩:∃i,k2=i+1:=⟨k2-1,by omega⟩;obtain⟨u,hu⟩:∃u,l[j+1+i]?=some u:=⟨l[j+1+i],aa (by omega)⟩;obtain⟨v,hv⟩:∃v,l[j+1+i+1]?=some v:=⟨l[j+1+i+1],aa (by omega)⟩
 have hcu:c[j+1+i]?=some u:=by
  have:(c.drop k)[j+1+i-k]?=(l.drop k)[j+1+i-k]?:=by rw[hcd]
  rw[bi,bi,show k+(j+1+i-k)=j+1+i by omega] at this;rw[this,hu]
 have hcv:c[j+1+(i+1)]?=some v:=by
  have:(c.drop k)[j+1+i+1-k]?=(l.drop k)[j+1+i+1-k]?:=by rw[hcd]
  rw[bi,bi,show k+(j+1+i+1-k)=j+1+i+1 by omega] at this;rw[<-Nat.add_assoc,this,hv]
 have hi:i<l.length-(j+1):=by omega
 have hs2:=yw hu hv;refine eQ ?_;refine zs ?_;refine oz [0,0,3,7,0,0,32,112,240,511] ?_;refine ni (n7 hlt2 @ad (vT hcv) (Lo (show -9223372036854775808<=((i+1:Nat):Int)-1/\((i+1:Nat):Int)-1<=9223372036854775807 from⟨by omega,by omega⟩)) (show((i+1:Nat):Int)-1=(i:Int) from by omega) hi (vT hcu)) ?_;refine zM ?_;cases g2:decide (v=u);rotate_left
 ·have g3:u=v:=(ww g2).symm;refine zN ?_;refine aC (p9 (show -9223372036854775808<=((i+1:Nat):Int)+1/\((i+1:Nat):Int)+1<=9223372036854775807 from⟨by omega,by omega⟩)) ?_;refine⟨l.length-(i+1+1),_,by omega,zH,i+1+1,k,c,⟨by omega,by omega⟩,⟨by omega,by omega⟩,rfl,⟨hcl,?_,hcd⟩,rfl⟩;rw[ul g3] at hs2;rw[show j+1+(i+1+1)=j+1+i+1+1 by omega,hs2,hct];rfl
 have g3:¬u=v:=λe=>by rw[e] at g2;simp at g2
 have hkn:k<l.length:=by omega
 have hkc:k<c.length:=by omega
 refine zY ?_;refine aC (n8 hlt2 @ad (vT hcv) hkn @l9 hcl (show k+1<=l.length by omega) (QL v hkc)) ?_;refine aC (p9 (show -9223372036854775808<=(k:Int)+1/\(k:Int)+1<=9223372036854775807 from⟨by omega,by omega⟩)) ?_;refine aC (p9 (show -9223372036854775808<=((i+1:Nat):Int)+1/\((i+1:Nat):Int)+1<=9223372036854775807 from⟨by omega,by omega⟩)) ?_;refine⟨l.length-(i+1+1),_,by omega,zH,i+1+1,k+1,c.set k v,⟨by omega,by omega⟩,⟨by omega,by omega⟩,rfl,⟨by rw[ba,hcl],?_,?_⟩,rfl⟩
 ·rw[un g3] at hs2;rw[show j+1+(i+1+1)=j+1+i+1+1 by omega,hs2,Pc v hkc,List.take_append,bd,b0 (by omega),show k+1-k=1 by omega,List.take_take,Nat.min_eq_right (by omega),hct];rfl
 ·rw[List.drop_set,ul (by omega)];have:=congrArg (List.drop 1) hcd;rw[ce,ce] at this;exact this
def bn(o e n:Nat):SV:=if n=0 then cN else .buf o n e none
def qF{α:Type}(o:Nat)(l:List α)(enc:α->List SV):List SO:=if l=[] then [] else ay o .gone++[.cells (l.flatMap enc)]
def eH(o e:Nat):bn o e 0=cN:=rfl
def DE(o e n:Nat):bn o e (n+1)=.buf o (n+1) e none:=rfl
def bV{o e n:Nat}(h:¬n=0):bn o e n=.buf o n e none:=un h
def mc{α:Type}(o:Nat)(enc:α->List SV):qF o [] enc=[]:=rfl
def ji{α:Type}{o:Nat}{l:List α}{enc:α->List SV}(h:¬l=[]):qF o l enc=ay o .gone++[.cells (l.flatMap enc)]:=un h
def mQ{α:Type}(o:Nat)(l:List α)(x:α)(enc:α->List SV):qF o (l++[x]) enc=ay o .gone++[.cells ((l++[x]).flatMap enc)]:=un (by simp)
def aJ{α:Type}{enc:α->List SV}{e:Nat}(he:∀x,(enc x).length=e):∀l:List α,(l.flatMap enc).length=l.length*e
 | []=>by simp
 | a::l=>by rw[flatMap_cons,aS,he,aJ he l,bx,Nat.succ_mul,Nat.add_comm]
def cV{α:Type}{enc:α->List SV}{e:Nat}(he:∀x,(enc x).length=e)(l:List α):(l.flatMap enc).take (l.length*e)=l.flatMap enc:=
 af (by rw[aJ he];exact al _)
def eh{α:Type}{enc:α->List SV}{e:Nat}(he:∀x,(enc x).length=e)(hg:∀x,cr (enc x)=true)(o:Nat)(l:List α)(x:α):((l.flatMap enc).take (l.length*e)++enc x).map (bf o)=(l++[x]).flatMap enc:=by
 rw[cV he,cd,bI (hg x),bI (aB hg l),bb];simp
def aZ{α:Type}{enc:α->List SV}(hg:∀x,cr (enc x)=true)(o:Nat)(l:List α):(l.flatMap enc).map (bf o)=l.flatMap enc:=bI (aB hg l)
def Lg{α:Type}{enc:α->List SV}{e o:Nat}(he:∀x,(enc x).length=e)(hg:∀x,cr (enc x)=true)(l:List α):Wk (qF o l enc) (bn o e l.length) (ak e l enc):=by
 by_cases h:l=[]
 ·subst h;exact Wk.nil _
 ·have h0:¬l.length=0:=λe=>h (List.length_eq_zero_iff.1 e);rw[bV h0,ji h];refine Wk.buf (cs:=l.flatMap enc) ?_ ?_ ?_
  ·rw[List.getElem?_append_right (by rw[b5];exact al _),b5,cj];rfl
  ·rw[cV he];exact bp.refl (aB hg l)
  ·rw[aJ he];exact al _
def uH:PC Tryz.prog 96 [cN] (·=.a (.bE [])):=by
 intro ρ h avs _ hA;rw[ep] at hA;obtain⟨a,r,rfl,hA1,hA2⟩:=hA;rw[gH] at hA2;subst hA2;rw[GS] at hA1;subst hA1;refine(w4 [] _ h.next h ⟨by simp,.inl ⟨rfl,rfl⟩⟩ (by simp)).mono ?_;rintro v h' ⟨rfl,_,_,_,_,ho,_⟩;exact⟨_,ρ,rfl,ho,λid ob hi=>.inl hi,by rw[GS]⟩
def xD:PC Tryz.prog 233 [cN] (·=cN):=by
 refine pB 61 Tryz.func233 ?_;refine lC ?_;refine cL ?_;exact zo [.tmp 2]
def Mv(l:List (List Nat)):List (List Nat):=eZ (dM l)
def Pb:Mv []=[]:=rfl
def Hj(ls:List (List (List Nat)))(hl:ls.length<=1000000)(hb:ls.flatten.length<=1000000):PC Tryz.prog 207 [ak 1 ls jj] (·=ak 1 (Mv ls.flatten) (aA ae)):=by
 refine pB 10 Tryz.func207 ?_;have hc:=G4 ls hl hb;refine kD ?_;by_cases h0:ls.flatten=[]
 ·rw[pJ,O5,ul h0,ul h0] at hc;refine zS [] trivial hc ?_;refine zR ?_;refine zC ?_;refine zK uH ?_;refine zR ?_;refine zC ?_;refine zK xD ?_;refine zR ?_;exact zo [.tmp 2] (r:=.sl 0 1 []) (hw:=Wk.nil _) (hq:=by rw[h0,Pb];rfl)
 ·rw[pJ,O5,un h0,un h0] at hc;have hl2:(dM ls.flatten).length=ls.flatten.length:=(qP ls.flatten).length_eq;have h1:dM ls.flatten≠[]:=λe=>h0 (List.length_eq_zero_iff.1 (by rw[<-hl2,e];rfl));have hcc:=Bm (dM ls.flatten) (by rw[hl2];exact hb) h1;rw[hl2] at hcc;refine zS [] trivial hc ?_;refine zR ?_;refine zC ?_;refine zS [0] trivial (sS _ hb h0) ?_;refine zR ?_;refine zC ?_;refine zS [0] trivial hcc ?_;refine zR ?_;exact zo [.tmp 2] (r:=ak 1 (Mv ls.flatten) (aA ae)) (hw:=by exact .buf rfl (by rw[ad,ur,List.take_left'];(exact bp.refl (Ks _));rfl) (by rw[l9,aS];omega))
def qD(r:bu):List (List Nat):=if Proofs.fR r=false then [] else Mv (r.opts.map cO).flatten
def Gg(e:bJ):(cO e).length<=2:=by
 unfold cO;split
 ·simp
 ·split<;>simp
def Dj(k:Nat):∀ls:List bJ,(ls.map cO).flatten.length<=2*ls.length
 | []=>by simp
 | a::l=>by
  have:=Dj k l;have:=Gg a;rw[ci,b9,aS,bx];omega
def rF(l:List (List Nat)):(jj l).length=1:=rfl
def vU(l:List (List Nat)):cr (jj l)=true:=rfl
def JE(r:bu)(hr:ea r)(hlen:r.opts.length<=400000):PC Tryz.prog 143 [.ag (aD r)] (·=ak 1 (qD r) (aA ae)):=by
 refine pB 24 Tryz.func143 ?_;refine aC @aD.eq_1 ?_;refine zC ?_;refine zK (nS r hr) ?_;cases h1:Proofs.fR r
 ·refine zR ?_;refine cL ?_;exact zo [.tmp 2] (r:=.sl 0 1 []) (hw:=Wk.nil _) (hq:=by rw[qD,ul h1];rfl)
 refine zR ?_;refine iK ?_;refine aC @ak.eq_1 ?_;refine zs ?_;refine zL r.opts (λk=>True) (λk=>[(3,bn 2 1 k),(10,ak 14 r.opts aF),(11,ab r.opts.length),(12,ab k)]) (λk=>qF 2 ((r.opts.take k).map Proofs.cO) jj) (bL (n4 @take_zero.{0} @List.map_nil.{0,0} @eH @mc)) zp ?_;intro k hk hall;refine zT r.opts k ?_ ?_;rintro rfl;rotate_left;intro e hx hlt;rotate_left
 ·refine dZ ?_
  have hpos:¬r.opts.length=0:=by
   intro h;unfold Proofs.fR at h1;rw[h] at h1;simp at h1
  have hne:¬r.opts.map Proofs.cO=[]:=λh=>hpos (by have:=congrArg cf h;rwa [ac] at this);rw[cb,bV hpos,ji hne];refine ar.fg (Fg.freeze (f':=[(3,ak 1 (r.opts.map Proofs.cO) jj)]) 2 rfl (λh=>by cases h) ⟨.inr ?_,trivial⟩) ?_
  ·have:=Wk.buf (S:=na 2 (.cells ((r.opts.map Proofs.cO).flatMap jj))) (o:=2) (n:=r.opts.length) (e:=1) (c:=none) (cs:=(r.opts.map Proofs.cO).flatMap jj) (ds:=(r.opts.map Proofs.cO).flatMap jj) rfl ?_ ?_
   ·rw[ak,ac];exact this
   ·have h2:=cV rF (r.opts.map Proofs.cO);rw[ac] at h2;rw[h2];exact bp.refl (aB vU _)
   ·rw[aJ rF,ac];exact al _
  refine zC ?_;refine zK (Hj (r.opts.map Proofs.cO) (by rw[ac];omega) (by have:=Dj 0 r.opts;omega)) ?_ (hfl:=.inr (bp.refl rfl));refine zR ?_;exact zo [.tmp 2] (r:=ak 1 (Mv (r.opts.map Proofs.cO).flatten) (aA ae)) (hw:=Wk.refl rfl) (hq:=by rw[qD,un (by rw[h1];decide)])
 have he:p8 e:=hr.ev e (bo hx);refine eQ ?_;have ht:=br hx;by_cases hk0:k=0
 ·rw[show(r.opts.take k).map Proofs.cO=[] by rw[hk0];rfl,mc,show bn 2 1 k=cN by rw[hk0];rfl]
  have ht1:(r.opts.take (k+1)).map Proofs.cO=[]++[Proofs.cO e]:=by rw[ht,hk0];rfl
  have hn1:bn 2 1 (k+1)=.buf 2 1 1 none:=by rw[hk0];rfl
  refine aC (n3 hlt (aG (e:=14) (enc:=aF) (λ_=>rfl) hx) @aF.eq_1) ?_;refine gG @aF.eq_1 ?_;refine zK (uF e he) ?_ (hfl:=.inr (bp.refl rfl));refine zR ?_;refine aC (zi hlt hr.len) ?_;refine zX hlt (bL (n8 ht1 hn1 @mQ @flatMap_cons.{0,0} @List.flatMap_nil.{0,0} @jj.eq_1 @List.nil_append.{0} qK)) trivial
 have hne:¬(r.opts.take k).map Proofs.cO=[]:=λh=>hk0 (by have:=congrArg cf h;rw[ac,bd,b0 (by omega)] at this;exact this);rw[ji hne,bV hk0]
 have hlk:((r.opts.take k).map Proofs.cO).length=k:=by rw[ac,bd,b0 (by omega)]
 have ht1:(r.opts.take (k+1)).map Proofs.cO=(r.opts.take k).map Proofs.cO++[Proofs.cO e]:=by rw[ht,cd];rfl
 have hcl:=aJ rF ((r.opts.take k).map Proofs.cO);rw[hlk] at hcl;have happ:=eh rF vU 2 ((r.opts.take k).map Proofs.cO) (Proofs.cO e);rw[hlk,jj,ak] at happ;have hkc:=λo=>aZ vU o ((r.opts.take k).map Proofs.cO);refine aC (n5 hlt (aG (e:=14) (enc:=aF) (λ_=>rfl) hx) @aF.eq_1 qK hkc) ?_;refine gG @aF.eq_1 ?_;refine zK (uF e he) ?_ (hfl:=.inr (bp.refl rfl));refine cM (n5 hcl happ hkc (show k<=1000000 by omega) @al) ?_;refine aC (zi hlt hr.len) ?_;refine zX hlt (bL (n4 ht1 @DE @mQ qK)) trivial
def KE(p:bu×Int):Bool:=!(decide (p.2<0))&&!(decide (bF p.1<=p.2))
def gK(p:bu×Int):List bJ:=(p.1.opts[p.2.toNat]?).toList
def me(l:List bu)(ch:List Int):Option (List bJ):=if l.length=ch.length then (if (l.zip ch).all KE then some ((l.zip ch).flatMap gK) else none) else none
def KR:Option (List bJ)->SV
 | some es=>.bE [ak 14 es aF,ab 0]
 | none=>.bE [.sl 0 14 [],ab 1]
def cT(e:bJ):(aF e).length=14:=rfl
def dx(e:bJ):aF e=[ab e.op,ab e.day,ae e.part,ae e.kind,ae e.bN,ae e.slot,ae e.key,ae e.value,ab e.u1,ab e.u2,ab e.u3,ab e.u4,ab e.u5,ab e.u6]:=rfl
def cY(e:bJ):cr (aF e)=true:=rfl
def OH(p:bu×Int):(gK p).length<=1:=by
 unfold gK;cases p.1.opts[p.2.toNat]?<;>simp
def sA:∀l:List (bu×Int),(l.flatMap gK).length<=l.length
 | []=>by simp
 | a::l=>by
  have:=OH a;have:=sA l;rw[flatMap_cons,aS,bx];omega
def sn(r:bu):bF r<=(r.opts.length:Int)+1:=by
 unfold bF;split
 ·omega
 ·split<;>omega
set_option maxHeartbeats 1000000 in
def Ht(l:List bu)(ch:List Int)(hl:∀r∈l,ea r)(hlen:l.length<=1000000)(hlc:ch.length<=1000000):PC Tryz.prog 54 [ak 2 l aD,ak 1 ch (aA ab)] (·=KR (me l ch)):=by
 refine pB 49 Tryz.func54 ?_;refine zV ?_
 (repeat refine ar.seq ?_)
 refine ar.scope ?_;refine zV ?_;by_cases heq:l.length=ch.length;rotate_left
 ·rw[show(!decide ((l.length:Int)=(ch.length:Int)))=true by simp;omega];refine cL ?_;exact iA [.tmp 4,.tmp 5] (r:=.bE [.sl 0 14 [],ab 1]) (hw:=.bE (.cons (.nil _) (.cons (.a _) .nil))) (hq:=by rw[me,un heq];rfl)
 rw[show(!decide ((l.length:Int)=(ch.length:Int)))=false by simp;omega];refine iK ?_
 (repeat refine ar.seq ?_)
 refine ar.label ?_
 (try change ar _ _ _ _ _)
 refine zV ?_
 have hz:∀{k:Nat} {r:bu} {n:Int},l[k]?=some r->ch[k]?=some n->(l.zip ch)[k]?=some (r,n):=λh1 h2=>by
  rw[List.getElem?_zip_eq_some];exact⟨h1,h2⟩
 refine zs ?_;refine zL l (λk=>((l.zip ch).take k).all KE=true) (λk=>[(1,ak 1 ch (aA ab)),(6,bn 2 14 (((l.zip ch).take k).flatMap gK).length),(15,ak 2 l aD),(16,ab l.length),(17,ab k)]) (λk=>qF 2 (((l.zip ch).take k).flatMap gK) aF) (bL (n5 @take_zero.{0} @List.flatMap_nil.{0,0} @List.length_nil.{0} @eH @mc)) zp ?_;intro k hk hall;refine zT l k ?_ ?_;rintro rfl;rotate_left;intro r hx hlt;rotate_left
 ·refine dZ ?_
  have hzl:(l.zip ch).length=l.length:=by rw[List.length_zip,<-heq,Nat.min_self]
  rw[<-hzl,cb] at hall ⊢;refine zV ?_;exact iA [.tmp 4,.tmp 5] (r:=.bE [ak 14 ((l.zip ch).flatMap gK) aF,ab 0]) (hw:=.bE (.cons (Lg cT cY _) (.cons (.a _) .nil))) (hq:=by rw[me,ul heq,ul hall];rfl)
 have hrk:ea r:=hl r (bo hx);have hr1:=hrk.len;obtain⟨n,hn⟩:∃n,ch[k]?=some n:=⟨ch[k],aa (by omega)⟩;have hzk:=hz hx hn;have ht:=br hzk
 have hlc2:k<ch.length:=by omega
 have hall2:KE (r,n)=true->((l.zip ch).take (k+1)).all KE=true:=λh=>by
  rw[ht,cc,hall];show(true&&(KE (r,n)&&true))=true;rw[h];rfl
 have hbad:KE (r,n)=false->me l ch=none:=λh=>by
  rw[me,ul heq,un];intro h2;have:=List.all_eq_true.1 h2 _ (bo hzk);rw[h] at this;cases this
 have hol:(((l.zip ch).take k).flatMap gK).length<=k:=by
  have:=sA ((l.zip ch).take k);rw[bd] at this;omega
 have hfm:((l.zip ch).take (k+1)).flatMap gK=((l.zip ch).take k).flatMap gK++gK (r,n):=by rw[ht,bb];simp
 generalize hO:((l.zip ch).take k).flatMap gK=out at hol hfm;refine eQ ?_;have hcl:=aJ cT out;have hkc:=λo=>aZ cY o out
 have fin:gK (r,n)=[]->bn 2 14 (((l.zip ch).take (k+1)).flatMap gK).length=bn 2 14 out.length/\qF 2 (((l.zip ch).take (k+1)).flatMap gK) aF=qF 2 out aF:=λh=>by rw[hfm,h,bs];exact⟨rfl,rfl⟩
 by_cases hk0:out=[]
 ·rw[show qF 2 out aF=[] by rw[hk0];rfl,show bn 2 14 out.length=cN by rw[hk0];rfl];refine aC (n3 hlt (aG (e:=2) (enc:=aD) (λ_=>rfl) hx) @aD.eq_1) ?_;refine aC (n3 hlc2 (aG (e:=1) (enc:=aA ab) (λ_=>rfl) hn) @aA.eq_1) ?_;cases g1:decide (n<0);rotate_left
  ·refine aC g1 ?_;refine cL ?_;exact iA [.tmp 4,.tmp 5] (r:=.bE [.sl 0 14 [],ab 1]) (hw:=.bE (.cons (.nil _) (.cons (.a _) .nil))) (hq:=by rw[hbad (by rw[KE,g1];rfl)];rfl)
  have hn0:=wt g1;obtain⟨i,rfl⟩:∃i:Nat,n=(i:Int):=⟨n.toNat,by omega⟩;refine gG g1 ?_;refine zK (iJ r hrk) ?_;cases g2:decide (bF r<=(i:Int));rotate_left
  ·refine cM g2 ?_;refine cL ?_;exact iA [.tmp 4,.tmp 5] (r:=.bE [.sl 0 14 [],ab 1]) (hw:=.bE (.cons (.nil _) (.cons (.a _) .nil))) (hq:=by rw[hbad (by rw[KE,g1,g2];rfl)];rfl)
  refine cM g2 ?_;refine zN ?_
  have hok:KE (r,(i:Int))=true:=by rw[KE,g1,g2];rfl
  have hcl2:=sn r;have hi1:=wt g2;by_cases g3:i=r.opts.length
  ·have hp:gK (r,(i:Int))=[]:=by
    show(r.opts[i]?).toList=[];rw[a6 (by omega)];rfl
   obtain⟨f1,f2⟩:=fin hp;have hE1:bn 2 14 out.length=cN:=(by rw[hk0];rfl);have hE2:qF 2 out aF=[]:=(by rw[hk0];rfl);refine aC (show decide ((i:Int)=(r.opts.length:Int))=true by simp only[wr];omega) ?_;refine zY ?_;refine ar.exit ?_;refine aC (zi hlt hlen) ?_;refine zX hlt (bL (n4 f1 f2 hE1 hE2)) (hall2 hok)
  ·have hi2:i<r.opts.length:=by omega
   obtain⟨e,hei⟩:∃e,r.opts[i]?=some e:=⟨r.opts[i],aa hi2⟩
   have hp:gK (r,(i:Int))=[e]:=by
    show(r.opts[i]?).toList=[e];rw[hei];rfl
   refine aC (show decide ((i:Int)=(r.opts.length:Int))=false by simp only[wp];omega) ?_;refine zN ?_;rw[hp] at hfm
   have hE3:bn 2 14 (((l.zip ch).take (k+1)).flatMap gK).length=.buf 2 1 14 none:=by rw[hfm,hk0];rfl
   have hE4:qF 2 (((l.zip ch).take (k+1)).flatMap gK) aF=[.gone,.gone,.cells (aF e)]:=by rw[hfm,hk0];rfl
   refine aC (n3 hi2 (aG (e:=14) (enc:=aF) (λ_=>rfl) hei) @aF.eq_1) ?_;refine aC (zi hlt hlen) ?_;refine zX hlt (bL (n3 hE3 hE4 @aF.eq_1)) (hall2 hok)
 ·have hk1:¬out.length=0:=λh=>hk0 (List.length_eq_zero_iff.1 h);rw[ji hk0,bV hk1];refine aC (n5 hlt (aG (e:=2) (enc:=aD) (λ_=>rfl) hx) @aD.eq_1 qK hkc) ?_;refine aC (n3 hlc2 (aG (e:=1) (enc:=aA ab) (λ_=>rfl) hn) @aA.eq_1) ?_;cases g1:decide (n<0);rotate_left
  ·refine aC g1 ?_;refine cL ?_;exact iA [.tmp 4,.tmp 5] (r:=.bE [.sl 0 14 [],ab 1]) (hw:=.bE (.cons (.nil _) (.cons (.a _) .nil))) (hq:=by rw[hbad (by rw[KE,g1];rfl)];rfl)
  have hn0:=wt g1;obtain⟨i,rfl⟩:∃i:Nat,n=(i:Int):=⟨n.toNat,by omega⟩;refine gG g1 ?_;refine zK (iJ r hrk) ?_;cases g2:decide (bF r<=(i:Int));rotate_left
  ·refine cM g2 ?_;refine cL ?_;exact iA [.tmp 4,.tmp 5] (r:=.bE [.sl 0 14 [],ab 1]) (hw:=.bE (.cons (.nil _) (.cons (.a _) .nil))) (hq:=by rw[hbad (by rw[KE,g1,g2];rfl)];rfl)
  refine cM g2 ?_;refine zN ?_
  have hok:KE (r,(i:Int))=true:=by rw[KE,g1,g2];rfl
  have hcl2:=sn r;have hi1:=wt g2;by_cases g3:i=r.opts.length
  ·have hp:gK (r,(i:Int))=[]:=by
    show(r.opts[i]?).toList=[];rw[a6 (by omega)];rfl
   obtain⟨f1,f2⟩:=fin hp
   skip
   refine aC (n2 hkc (show decide ((i:Int)=(r.opts.length:Int))=true by simp only[wr];omega)) ?_;refine zY ?_;refine ar.exit ?_;refine zs ?_;refine ar.r0 (by rfl) (gQ (p9 (pw hlt hlen (by decide)))) ?_;refine⟨l.length-(k+1),_,by omega,(Fg.less (by (simp only[bP,bg,dr,↓reduceIte,ap,ak,f1,f2,bV hk1,ji hk0,ay])<;>(repeat' apply And.intro)<;>first | rfl | trivial) (by (simp only[bP,bg,or_true,true_or,ak,f1,f2,bV hk1,ji hk0,ay])<;>(repeat' apply And.intro)<;>first | exact .inr rfl | exact .inl rfl | trivial)),k+1,by omega,rfl,(hall2 hok),rfl⟩
  ·have hi2:i<r.opts.length:=by omega
   obtain⟨e,hei⟩:∃e,r.opts[i]?=some e:=⟨r.opts[i],aa hi2⟩
   have hp:gK (r,(i:Int))=[e]:=by
    show(r.opts[i]?).toList=[e];rw[hei];rfl
   refine aC (n2 hkc (show decide ((i:Int)=(r.opts.length:Int))=false by simp only[wp];omega)) ?_;refine zN ?_;rw[hp] at hfm;have happ:=eh cT cY 2 out e;rw[dx] at happ
   have hE3:bn 2 14 (((l.zip ch).take (k+1)).flatMap gK).length=.buf 2 (out.length+1) 14 none:=by rw[hfm,aS];rfl
   have hE4:qF 2 (((l.zip ch).take (k+1)).flatMap gK) aF=[.gone,.gone,.cells ((out++[e]).flatMap aF)]:=by rw[hfm,mQ];rfl
   refine aC (n8 hi2 (aG (e:=14) (enc:=aF) (λ_=>rfl) hei) @aF.eq_1 hcl hkc (show out.length<=1000000 by omega) @al happ) ?_;refine aC (zi hlt hlen) ?_;refine zX hlt (bL (n2 hE3 hE4)) (hall2 hok)
section
variable {α:Type} {c:α->SV}
def x4(l:List α):l.flatMap (aA c)=l.map c:=by
 induction l with
 | nil=>rfl
 | cons a l ih=>rw[flatMap_cons,ih];rfl
def DK{l:List α}{i:Nat}{x:α}(h:l[i]?=some x):(l.flatMap (aA c))[i]?=some (c x):=by
 rw[x4,ax,h];rfl
def tS(l:List α):(l.flatMap (aA c)).length=l.length:=by rw[x4,List.length_map]
def Gr{l:List α}{i:Nat}(y:α)(h:i<l.length):(l.flatMap (aA c)).take i++(c y::(l.flatMap (aA c)).drop (i+1))=(l.set i y).flatMap (aA c):=by
 rw[x4,x4,List.map_set,bc,ul (by rw[ac];exact h)]
end
abbrev cx(n:Nat):SV:=ab (n:Int)
def iO(f:List Nat):Prop:=∀(j:Nat) x,f[j]?=some x->x<=j
def uc:Nat->List Nat->Nat->Nat×List Nat
 | 0,f,i=>(i,f)
 | s+1,f,i=>if f.getD i 0=i then (i,f) else uc s (f.set i (f.getD (f.getD i 0) 0)) (f.getD (f.getD i 0) 0)
def gL(f:List Nat)(i:Nat):Nat×List Nat:=uc i f i
def iO.set{f:List Nat}(h:iO f){i y:Nat}(hy:y<=i):iO (f.set i y):=by
 intro j x hx;by_cases e:i=j
 ·subst e
  have hl:i<f.length:=by
   have:=bD hx;rwa [ba] at this
  rw[bw hl] at hx;cases hx;exact hy
 ·rw[List.getElem?_set_ne e] at hx;exact h j x hx
def GN:∀(s:Nat) (f:List Nat) (i:Nat),iO f->i<f.length->iO (uc s f i).2/\(uc s f i).2.length=f.length/\(uc s f i).1<=i
 | 0,f,i,h,hi=>⟨h,rfl,Nat.le_refl _⟩
 | s+1,f,i,h,hi=>by
  unfold uc;split
  ·exact⟨h,rfl,Nat.le_refl _⟩
  ·obtain⟨p,hp⟩:∃p,f[i]?=some p:=⟨f[i],List.getElem?_eq_getElem hi⟩;have hpi:=h i p hp;obtain⟨q,hq⟩:∃q,f[p]?=some q:=⟨f[p],List.getElem?_eq_getElem (by omega)⟩;have hqp:=h p q hq
   have e1:f.getD i 0=p:=by rw[List.getD_eq_getElem?_getD,hp];rfl
   have e2:f.getD p 0=q:=by rw[List.getD_eq_getElem?_getD,hq];rfl
   rw[e1,e2];obtain⟨g1,g2,g3⟩:=GN s (f.set i q) q (h.set (by omega)) (by rw[List.length_set];omega);exact⟨g1,by rw[g2,List.length_set],by omega⟩
def pI{f:List Nat}{i:Nat}(h:iO f)(hi:i<f.length):iO (gL f i).2/\(gL f i).2.length=f.length/\(gL f i).1<=i:=GN i f i h hi
def rH(f:List Nat)(i:Nat)(hf:iO f)(hi:i<f.length)(hlen:f.length<=1000000):SC Tryz.prog 105 [.buf 0 f.length 1 none,cx i] [.cells (f.flatMap (aA cx))] [] (λr S'=>r=cx (gL f i).1/\S'=[.cells ((gL f i).2.flatMap (aA cx))]):=by
 refine GU 26 Tryz.func105 ?_;refine zV ?_
 (repeat refine ar.seq ?_)
 refine ar.block (ar.loop (λm st=>∃(g:List Nat) (j s:Nat),(iO g/\g.length=f.length/\j<f.length)/\(j<=s/\uc s g j=gL f i)/\j=m/\st=⟨[(0,.buf 0 f.length 1 none),(1,cx j),(1000000,.ptr 0 0)],26,[.cells (g.flatMap (aA cx))],[]⟩) i zH ⟨f,i,i,⟨hf,rfl,hi⟩,⟨al _,rfl⟩,rfl,rfl⟩ (by rintro m st ⟨g,j,s,_,_,_,rfl⟩;rfl) ?_);rintro m st ⟨g,j,s,⟨hg,hgl,hj⟩,⟨hs,hr⟩,rfl,rfl⟩;obtain⟨p,hp⟩:∃p,g[j]?=some p:=⟨g[j],aa (by omega)⟩;have hpj:=hg j p hp;obtain⟨q,hq⟩:∃q,g[p]?=some q:=⟨g[p],aa (by omega)⟩;have hqp:=hg p q hq
 have e1:g.getD j 0=p:=by rw[aj,hp];rfl
 have e2:g.getD p 0=q:=by rw[aj,hq];rfl
 refine zs ?_;refine ar.r0 (by rfl) (by simp only[bP,bg,ak,aw,a8,a7,↓reduceIte,ap,be,bh,aR,bk,ai,an,aU,hj,ad,DK hp];first | done | rfl) ?_;by_cases hpe:p=j
 ·rw[show(!decide ((p:Int)=(j:Int)))=false by simp;omega];refine dZ ?_;refine zV ?_
  have hr2:gL f i=(j,g):=by
   rw[<-hr]
   cases s with
   | zero=>rfl
   | succ s=>rw[uc,e1,ul hpe]
  refine zE ?_;exact zP [.tmp 4] (hq:=by (try simp only[dh,aW]);first | done | (rw[hr2];exact⟨rfl,rfl⟩))
 rw[show(!decide ((p:Int)=(j:Int)))=true by simp;omega];refine eQ ?_
 have hpl:p<f.length:=by omega
 have hjg:j<g.length:=by omega
 refine zs ?_;refine ar.r0 (by rfl) (by simp only[bP,bg,ak,aw,a8,a7,↓reduceIte,ap,be,bh,aR,bk,ai,an,aU,hj,hpl,ad,DK hp,DK hq,tS,hgl,show j+1<=f.length by omega,Gr q hjg];first | done | rfl) ?_;have hsq:(g.set j q)[j]?=some q:=bw hjg;refine zs ?_;refine ar.r0 (by rfl) (by simp only[bP,bg,ak,aw,a8,a7,↓reduceIte,ap,be,bh,aR,bk,ai,an,aU,hj,ad,DK hsq];first | done | rfl) ?_;obtain⟨s',rfl⟩:∃s',s=s'+1:=⟨s-1,by omega⟩;refine⟨q,_,by omega,zH,g.set j q,q,s',⟨hg.set (by omega),by rw[ba,hgl],by omega⟩,⟨by omega,?_⟩,rfl,rfl⟩;rw[<-hr,uc,e1,un hpe,e2]
def yU(f:List Nat)(i k:Nat):List Nat:=(gL (gL f i).2 k).2.set (max (gL f i).1 (gL (gL f i).2 k).1) (min (gL f i).1 (gL (gL f i).2 k).1)
def P8{f:List Nat}{i k:Nat}(h:iO f)(hi:i<f.length)(hk:k<f.length):iO (yU f i k)/\(yU f i k).length=f.length:=by
 obtain⟨a1,a2,a3⟩:=pI h hi;obtain⟨b1,b2,b3⟩:=pI (i:=k) a1 (by rw[a2];exact hk);exact⟨b1.set (by omega),by rw[yU,ba,b2,a2]⟩
def Qb(a b:Nat):sH true (.int .i64 (a:Int)) (.int .i64 (b:Int))=some (.int .i64 ((max a b:Nat):Int)):=by
 rw[Gb];congr 2;omega
def Qg(a b:Nat):sH false (.int .i64 (a:Int)) (.int .i64 (b:Int))=some (.int .i64 ((min a b:Nat):Int)):=by
 rw[Gc];congr 2;omega
def qN(r:Nat->Nat)(l:List Nat):kh r (l.flatMap (aA cx))=l.flatMap (aA cx):=aY (aB (λ_=>rfl) l)
def ia(o:Nat)(l:List Nat):(l.flatMap (aA cx)).map (bf o)=l.flatMap (aA cx):=bI (aB (λ_=>rfl) l)
def nv(B:Nat)(l:List Nat):fq B (l.flatMap (aA cx))=true:=bC (aB (λ_=>rfl) l)
def ML(f:List Nat)(i k:Nat)(hf:iO f)(hi:i<f.length)(hk:k<f.length)(hlen:f.length<=1000000):SC Tryz.prog 144 [.buf 0 f.length 1 none,cx i,cx k] [.cells (f.flatMap (aA cx))] [] (λr S'=>r=.bE []/\S'=[.cells ((yU f i k).flatMap (aA cx))]):=by
 refine GU 22 Tryz.func144 ?_;have h1:=rH f i hf hi hlen;have k1:=pI hf hi;obtain⟨a,f1,hA⟩:∃a f1,gL f i=(a,f1):=⟨_,_,rfl⟩;rw[hA] at h1 k1;simp only at h1 k1;obtain⟨q1,q2,q3⟩:=k1;have h2:=rH f1 k q1 (by rw[q2];exact hk) (by rw[q2];exact hlen);have k2:=pI (i:=k) q1 (by rw[q2];exact hk);obtain⟨b,f2,hB⟩:∃b f2,gL f1 k=(b,f2):=⟨_,_,rfl⟩;rw[hB] at h2 k2;rw[q2] at h2;simp only at h2 k2;obtain⟨p1,p2,p3⟩:=k2
 have hj:yU f i k=f2.set (max a b) (min a b):=by rw[yU,hA];simp only;rw[hB]
 refine zC ?_;refine zS [0] (n3 @qN @nv @ia) h1 ?_;refine zQ ?_;refine zS [0] (n3 @qN @nv @ia) h2 ?_;refine zR ?_
 have hm:max a b<f.length:=by omega
 have hm2:max a b<f2.length:=by omega
 refine zs ?_;refine ar.r0 (by rfl) (by simp only[bP,bg,ak,aw,a8,a7,↓reduceIte,ap,be,bh,aR,bk,ai,an,aU,Qb,Qg,hm,ad,tS,p2,q2,show max a b+1<=f.length by omega,Gr (min a b) hm2];first | done | rfl) ?_;exact zP [] (hq:=by (try simp only[dh,aW]);first | done | (rw[hj];first | exact⟨rfl,rfl⟩ | exact⟨trivial,trivial⟩ | exact⟨trivial,rfl⟩ | exact⟨rfl,trivial⟩))
end Go.Proofs
