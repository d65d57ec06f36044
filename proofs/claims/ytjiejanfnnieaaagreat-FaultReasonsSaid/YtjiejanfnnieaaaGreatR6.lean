/- Lemmas of this claim, each with its conditions. -/
import Derived.Test.YtjiejanfnnieaaaGreatR5
import Derived.Test.YtjiejanfnnieaaaGreatR4
import Derived.Test.YtjiejanfnnieaaaGreatR2
import Derived.Shelf.SlGeneric
import Derived.Shelf.SortM.Plain
import Derived.Shelf.SortM.SortNone
import Derived.Ground.SlgmProg
import Derived.Test.YtjiejanfnnieaaaGreatProg
set_option linter.all false
set_option maxHeartbeats 8000000
open Go.Proofs.Tryz (prog func159 func199 func44 func45 func50 func56 isAgg66 isAgg9 sizeOf9)
open List (flatMap_cons append_nil Perm flatMap_nil nil_append all_eq_true mem_map take_zero cons_append foldl_nil range)
open Nat (ble)
open Nat renaming le_refl -> aa, min_eq_left -> ap, reduceEqDiff -> a8, zero_mul -> bk, zero_le -> bt, pos_of_ne_zero -> b5, lt_succ_self -> cc, sub_zero -> cd, not_lt_zero -> ch, succ_mul -> cl, add_comm -> c4, add_zero -> c5, min_def -> dl, sub_self -> d3, lt_irrefl -> el, min_self -> em, succ_pos -> er, zero_add -> es
open Bool renaming and_eq_true -> ac, not_eq_true' -> bh
open List renaming length_take -> ad, take_append_of_le_length -> af, take_of_length_le -> aj, length_drop -> al, length_map -> am, mem_of_getElem? -> aS, drop_of_length_le -> aW, append_assoc -> a6, getElem?_map -> a7, length_set -> ba, take_length -> bb, flatMap_append -> bc, set_eq_take_append_cons_drop -> bd, replicate -> be, getElem?_cons_succ -> bi, getElem?_eq_none -> bv, length_replicate -> bw, map_cons -> bF, any_eq_true -> b6, map_append -> b7, drop_append_of_le_length -> b8, sizeOf_lt_of_mem -> b9, drop_zero -> ce, all_append -> ck, getElem?_drop -> cn, foldl_append -> co, getElem?_cons_zero -> cp, take_take -> ct, drop_length -> cv, contains_iff_mem -> c0, mem_map_of_mem -> dc, takeWhile_cons -> dd, getElem?_take -> dt, all_cons -> dv, any_eq_false -> dC, ext_getElem? -> dE, getElem?_set -> d0, take_add_one -> d2, take_append -> d5, nodup_cons -> d8, drop_drop -> ej
open And renaming intro -> bs
open Int renaming le_refl -> ci
open Array renaming getElem?_modify -> c6
open Go.Proofs.Tryz renaming func355 -> ds, underlying66 -> d4, underlying9 -> d6, zeroValue66 -> d7, zeroValue9 -> d9, sizeOf66 -> ex
namespace Go.Proofs
open Go.Shelf
def xr:Go.Shelf.Ren:=⟨λ| 6=>56 | 8=>127 | 9=>126 | 19=>212 | 20=>213 | 21=>203 | 22=>204 | 23=>205 | 24=>206 | 25=>207 | 26=>208 | 27=>209 | 28=>210 | 29=>211 | 36=>269 | 31=>270 | 32=>271 | 37=>272 | 38=>273 | 39=>159 | 41=>311 | n=>n,λ| 27=>66 | 29=>9 | 3=>3 | 32=>210 | 26=>66 | 0=>0 | 44=>281 | 46=>283 | 4=>4 | 36=>274 | 35=>273 | 41=>122 | 5=>5 | 9=>9 | 53=>318 | 57=>322 | 63=>344 | 64=>345 | n=>n,λ| n=>n⟩
def wT:Go.Proofs.SlLaysM.n6 prog xr:={
 mixed:=by kernel_rfl
 f6:=⟨Tryz.f56.name,by decide,func56.trans (rc some zW)⟩
 f8:=Tryz.func127.trans (rc some zW)
 f9:=⟨Tryz.f126.name,by decide,Tryz.func126.trans (rc some zW)⟩
 f19:=Tryz.func212.trans (rc some zW)
 f20:=Tryz.func213.trans (rc some zW)
 f21:=⟨Tryz.f203.name,by decide,Tryz.func203.trans (rc some zW)⟩
 f22:=⟨Tryz.f204.name,by decide,Tryz.func204.trans (rc some zW)⟩
 f23:=⟨Tryz.f205.name,by decide,Tryz.func205.trans (rc some zW)⟩
 f24:=⟨Tryz.f206.name,by decide,Tryz.func206.trans (rc some zW)⟩
 f25:=⟨Tryz.f207.name,by decide,Tryz.func207.trans (rc some zW)⟩
 f26:=⟨Tryz.f208.name,by decide,Tryz.func208.trans (rc some zW)⟩
 f27:=⟨Tryz.f209.name,by decide,Tryz.func209.trans (rc some zW)⟩
 f28:=⟨Tryz.f210.name,by decide,Tryz.func210.trans (rc some zW)⟩
 f29:=⟨Tryz.f211.name,by decide,Tryz.func211.trans (rc some zW)⟩
 f31:=Tryz.func270.trans (rc some zW)
 f32:=Tryz.func271.trans (rc some zW)
 f36:=⟨Tryz.f269.name,by decide,Tryz.func269.trans (rc some zW)⟩
 f37:=⟨Tryz.f272.name,by decide,Tryz.func272.trans (rc some zW)⟩
 f38:=⟨Tryz.f273.name,by decide,Tryz.func273.trans (rc some zW)⟩
 f39:=⟨Tryz.f159.name,by decide,func159.trans (rc some zW)⟩
 f41:=⟨Tryz.f311.name,by decide,Tryz.func311.trans (rc some zW)⟩
 t0:=Tryz.underlying0
 a0:=Tryz.isAgg0
 z0:=Tryz.sizeOf0
 v0:=Tryz.zeroValue0
 t3:=Tryz.underlying3
 a3:=Tryz.isAgg3
 z3:=Tryz.sizeOf3
 v3:=Tryz.zeroValue3
 t4:=Tryz.underlying4
 a4:=Tryz.isAgg4
 z4:=Tryz.sizeOf4
 v4:=Tryz.zeroValue4
 t5:=Tryz.underlying5
 a5:=Tryz.isAgg5
 z5:=Tryz.sizeOf5
 v5:=Tryz.zeroValue5
 t9:=d6
 a9:=isAgg9
 z9:=sizeOf9
 v9:=d9
 t26:=d4
 a26:=isAgg66
 z26:=ex
 v26:=d7
 t27:=d4
 a27:=isAgg66
 z27:=ex
 v27:=d7
 t29:=d6
 a29:=isAgg9
 z29:=sizeOf9
 v29:=d9
 t32:=Tryz.underlying210
 a32:=Tryz.isAgg210
 z32:=Tryz.sizeOf210
 v32:=Tryz.zeroValue210
 t35:=Tryz.underlying273
 a35:=Tryz.isAgg273
 z35:=Tryz.sizeOf273
 v35:=Tryz.zeroValue273
 t36:=Tryz.underlying274
 a36:=Tryz.isAgg274
 z36:=Tryz.sizeOf274
 v36:=Tryz.zeroValue274
 t41:=Tryz.underlying122
 a41:=Tryz.isAgg122
 z41:=Tryz.sizeOf122
 v41:=Tryz.zeroValue122
 t44:=Tryz.underlying281
 a44:=Tryz.isAgg281
 z44:=Tryz.sizeOf281
 v44:=Tryz.zeroValue281
 t46:=Tryz.underlying283
 a46:=Tryz.isAgg283
 z46:=Tryz.sizeOf283
 v46:=Tryz.zeroValue283
 t53:=Tryz.underlying318
 a53:=Tryz.isAgg318
 z53:=Tryz.sizeOf318
 v53:=Tryz.zeroValue318
 t57:=Tryz.underlying322
 a57:=Tryz.isAgg322
 z57:=Tryz.sizeOf322
 v57:=Tryz.zeroValue322
 t63:=Tryz.underlying344
 a63:=Tryz.isAgg344
 z63:=Tryz.sizeOf344
 v63:=Tryz.zeroValue344
 t64:=Tryz.underlying345
 a64:=Tryz.isAgg345
 z64:=Tryz.sizeOf345
 v64:=Tryz.zeroValue345 }
open Go.Ev Go.RowKit Go.Shelf Go.Lib Go.Sort
set_option maxRecDepth 100000
def DB(x y:List UInt8):decide (x<=y)=!fF (y.map (·.toNat)) (x.map (·.toNat)):=by
 rw[oW,bytesLess_eq];by_cases h:y<x
 ·have:¬x<=y:=λh2=>h2 h;simp[h,this]
 ·have:x<=y:=h;simp[h,this]
def Wp:Option Value->ByteArray
 | some (.string s)=>s
 | _=>ByteArray.empty
def HU(ss:List (List UInt8)):List (List Nat):=ss.map λs=>s.map (·.toNat)
def wS(ks:List (List Nat))(v:AV)(Z:Nat)(h:Ev.H)(hout:M9 Z h v 1 (ks.map qw))(hlen:ks.length<=1000000):
 ee prog (.func 56) [v] h (λr h'=>r=.cx []/\∃ks':List (List Nat),ks'.Perm ks/\rm ks'/\M9 Z h' v 1 (ks'.map qw)/\Over Z h h'/\∀id n e c,v=.slice (some (id,0)) n e c->h.store id 0 (ks'.map qw).flatten=some h'):=by
 intro σ w args' hv hr;obtain⟨x,rfl,hx⟩:=TZ hv;rw[eg dx func56 ii]
 rcases hout.2 with⟨e,e2⟩ | ⟨id,bX,fx,fy,hne,e2,ho,hfx,hxy,z1,z2,z3,z4,l1,l2,l3,l4⟩
 ·subst e2
  have hts:ks=[]:=by simpa using e
  subst hts
  cases hx with
  | ig hl=>
   refine Calls.mono (AnyM.slices_Sort_string_none wT none 0 w) λe w' ⟨he,hw⟩=>?_;subst hw;exact⟨_,he,.cx [],h,⟨rfl,[],.refl _,List.Pairwise.nil,hout,Over.refl _ _,λ_ _ _ _ he=>by cases he⟩,σ,V.lV,hr,.refl _ _ _⟩
 ·subst e2
  have hpos:0<ks.length:=by
   cases ks with
   | nil=>exact un rfl hne
   | cons=>exact er _
  rw[am] at hx
  cases hx with
  | @slice _ _ _ _ _ a p c hs hl hrr hcc ha=>
  have ha:a=⟨p.b,p.d+0,none⟩:=ha.resolve_right i4;subst ha;obtain⟨q,carr,et,hq,hb,hsz,hlen',hVc⟩:=hr.cells ho;rw[hs] at hq;cases hq
  have hfl:(ks.map qw).flatten.length=ks.length*1:=by
   have:=jP (s:=1) hout.1;rw[am] at this;exact this
  have hpl:=hr.lt ho hs
  let d:List (List UInt8):=(range ks.length).map λi=>(Wp carr[p.d+i]?).data.toList
  have hdl0:d.length=ks.length:=by simp[d]
  have hspec:∀i,i<ks.length->∃s:ByteArray,carr[p.d+i]?=some (.string s)/\ks[i]?=some (s.data.toList.map (·.toNat))/\d[i]?=some s.data.toList:=λi hi=>by
   have hki:ks[i]?=some ks[i]:=jp hi
   have hg:(ks.map qw)[i]?=some (qw ks[i]):=by rw[a7,hki];rfl
   have h0:=pM hout.1 hg (k:=0) i4;obtain⟨v0,g0,V0⟩:=hVc _ _ (h0.trans (show(qw ks[i])[0]?=some (.str ks[i]) from rfl));rw[Nat.mul_one,c5] at g0;generalize hkk:ks[i]=kk at V0
   cases V0 with
   | @str _ s0 e0=>
    refine⟨s0,g0,by rw[hki,hkk,e0],?_⟩;show((range ks.length).map _)[i]?=_;rw[a7,List.getElem?_range hi,m6,g0];rfl
  have hH:Holds encStr w p.b (p.d+0) d.toArray:=by
   intro j hj
   have hj':j<ks.length:=by simpa [hdl0] using hj
   obtain⟨s,g1,g2,g3⟩:=hspec j hj';refine⟨?_,vn hb⟩;rw[cell_of hb,c5,g1];rw[getElem!_pos d.toArray j hj]
   have:d.toArray[j]=s.data.toList:=by
    have h1:=jp (l:=d) (i:=j) i4;rw[g3] at h1;simpa using(Option.some.inj h1).symm
   rw[this]
  have hmain:=AnyM.slices_Sort_string wT p.b (p.d+0) c d w hH hpl (by rw[hdl0];omega);rw[hdl0] at hmain;change Calls prog 56 _ _ _ at hmain;refine Calls.mono hmain ?_;rintro e w' ⟨rfl,n,os,rfl⟩;obtain⟨d',hd'⟩:∃d',d'=d.mergeSort λx y=>decide (x<=y):=⟨_,rfl⟩;rw[<-hd']
  have hp3:d'.Perm d:=by rw[hd'];exact List.mergeSort_perm _ _
  have hp1:d'.length=ks.length:=by rw[hp3.length_eq,hdl0]
  have hsorted:d'.Pairwise λx y=>decide (x<=y)=true:=by
   rw[hd'];refine List.pairwise_mergeSort ?_ ?_ d
   ·intro a b c h1 h2;rw[DB] at *;simp only[bh] at *;cases h:fF (c.map (·.toNat)) (a.map (·.toNat))
    ·rfl
    ·rcases jV (a.map (·.toNat)) (b.map (·.toNat)) with g | g | g
     ·have:=fG h g;rw[h2] at this;cases this
     ·rw[g,h2] at h;cases h
     ·rw[h1] at g;cases g
   ·intro a b;rw[DB,DB]
    rcases jV (a.map (·.toNat)) (b.map (·.toNat)) with g | g | g
    ·rw[rO g];rfl
    ·rw[g,c9];rfl
    ·rw[rO g];simp
  have hdl:HU d=ks:=by
   apply dE;intro i;unfold HU;by_cases hi:i<ks.length
   ·obtain⟨s,g1,g2,g3⟩:=hspec i hi;rw[a7,g3,g2];rfl
   ·rw[bv (by simp[hdl0];omega),bv i4]
  have hperm:(HU d').Perm ks:=by rw[<-hdl];exact hp3.map _
  have hsx:rm (HU d'):=by
   unfold rm HU;rw[List.pairwise_map];refine hsorted.imp ?_;intro a b h1;rw[DB] at h1;simpa using h1
  have hlen2:(HU d').length=ks.length:=by unfold HU;rw[am,hp1]
  have hw3:=Ai (HU d')
  have hb1:(putRow encStr (Sort.ahead w n) p.b (p.d+0) d'.toArray).heap[p.b]?=some (.cells (putCells encStr (p.d+0) d'.toArray carr) et (0,0)):=by
   unfold putRow mapBlock;simp only[c6,if_true];rw[show(Sort.ahead w n).heap[p.b]?=some (.cells carr et (0,0)) from hb];rfl
  have hoth:∀b,b≠p.b->(putRow encStr (Sort.ahead w n) p.b (p.d+0) d'.toArray).heap[b]?=w.heap[b]?:=λb hbb=>by
   unfold putRow mapBlock;simp only[c6];rw[v6 (λe=>hbb e.symm)];rfl
  have hVn:∀(i:Nat) (a:AV),((HU d').map qw).flatten[i]?=some a->∃v,(putCells encStr (p.d+0) d'.toArray carr)[p.d+i]?=some v/\V σ a v:=by
   intro i a hia
   have hil:i<ks.length:=by
    have:=Ou hia;rw[jP hw3,am,hlen2] at this;omega
   have hj:i<d'.length:=by omega
   have hrow:((HU d').map qw)[i]?=some (qw (d'[i].map (·.toNat))):=by
    unfold HU;rw[a7,a7,jp hj];rfl
   have hat:=pM hw3 hrow (k:=0) i4;rw[Nat.mul_one,c5,hia] at hat
   have hcl:p.d+i<carr.size:=by omega
   have hput:(putCells encStr (p.d+0) d'.toArray carr)[p.d+i]?=some (encStr d'[i]):=by
    unfold putCells;rw[Array.getElem?_mapIdx,Array.getElem?_eq_getElem hcl,m6,ut ⟨by omega,by simp;omega⟩];rw[show p.d+i-(p.d+0)=i by omega,getElem!_pos d'.toArray i (by simpa using hj)];simp
   refine⟨_,hput,?_⟩;cases hat;exact .str rfl
  obtain⟨r1,r2⟩:=hr.rewrite ho hs (cs':=((HU d').map qw).flatten) (by rw[jP hw3,am,hlen2,hfl]) hb hb1 (by unfold putCells;rw[Array.size_mapIdx]) hVn hoth (by unfold putRow mapBlock;simp[Sort.ahead]) rfl rfl rfl
  have hbel:Below (putRow encStr (Sort.ahead w n) p.b (p.d+0) d'.toArray).heap.size (putRow encStr (Sort.ahead w n) p.b (p.d+0) d'.toArray) (grow (putRow encStr (Sort.ahead w n) p.b (p.d+0) d'.toArray) os):=
   ⟨rfl,rfl,rfl,by rw[size_grow];omega,λk hk=>by unfold grow;simp only;rw[Array.getElem?_append_left hk]⟩
  have hkeep:=sG r1 hbel;obtain⟨ao1,ao2⟩:=sE (id:=id) hfx z2 z3 z4
  have hne':(HU d').map qw≠[]:=by
   intro e;have:=rc List.length e;rw[am,hlen2] at this;simp at this;rw[this] at hpos;simp at hpos
  refine⟨_,rfl,.cx [],_,⟨rfl,HU d',hperm,hsx,⟨hw3,.inr ⟨id,bX,id,id,hne',?_,?_,?_,.inl rfl,z1,z1,z1,z4,?_,?_,?_,?_⟩⟩,?_,?_⟩,σ,V.lV,hkeep.1,r2.trans hkeep.2⟩
  ·rw[am,am,hlen2]
  ·exact cW _ _ _
  ·exact BK hfx
  ·show id<(h.alone id bX).next;rw[ao2];exact l1
  ·show id<(h.alone id bX).next;rw[ao2];exact l1
  ·show id<(h.alone id bX).next;rw[ao2];exact l1
  ·show bX<(h.alone id bX).next;rw[ao2];exact l4
  ·refine ao1.trans ⟨aa _,λj hj=>bn _ _ i4,λ_ _=>rfl,λhl=>vD i4⟩
  ·intro id2 n2 e2 c2 he;cases he
   have hfl2:((HU d').map qw).flatten.length=(ks.map qw).flatten.length:=by rw[jP hw3,am,hlen2,hfl]
   have hone:((HU d').map qw).flatten.all ki=true:=by
    rw[all_eq_true];intro x hx;rw[List.mem_flatten] at hx;obtain⟨r,hr1,hr2⟩:=hx;obtain⟨k,_,rfl⟩:=mem_map.1 hr1;rw[t6 hr2];rfl
   unfold H.store;rw[ho];simp only;rw[hfl2,es,fc (aa _),hone,Bool.and_self,aq,take_zero,nil_append,aW (aa _),append_nil]
open Go.Ev
def xh(a b:List Nat):Bool:=!fF b a
def L0(a b c:List Nat)(h1:xh a b=true)(h2:xh b c=true):xh a c=true:=by
 unfold xh at *;simp only[bh] at *;cases h:fF c a
 ·rfl
 ·rcases jV a b with g | g | g
  ·have:=fG h g;rw[h2] at this;cases this
  ·rw[g,h2] at h;cases h
  ·rw[h1] at g;cases g
def LZ(a b:List Nat):(xh a b||xh b a)=true:=by
 unfold xh
 rcases jV a b with g | g | g
 ·rw[rO g];rfl
 ·rw[g,c9];rfl
 ·rw[rO g];simp
def F8{a b:List Nat}(h1:xh a b=true)(h2:xh b a=true):a=b:=by
 unfold xh at h1 h2;simp only[bh] at h1 h2
 rcases jV a b with g | g | g
 ·rw[h2] at g;cases g
 ·exact g
 ·rw[h1] at g;cases g
def LX(x:List Nat):List (List Nat)->List (List Nat)
 | []=>[x]
 | y::l=>cond (xh x y) (x::y::l) (y::LX x l)
def eh:List (List Nat)->List (List Nat)
 | []=>[]
 | x::l=>LX x (eh l)
def S7(x:List Nat):∀l,(LX x l).Perm (x::l)
 | []=>.refl _
 | y::l=>by
  rw[LX];cases xh x y
  ·exact((S7 x l).cons y).trans (.swap x y l)
  ·exact .refl _
def qo:∀l,(eh l).Perm l
 | []=>.refl _
 | x::l=>(S7 x _).trans ((qo l).cons x)
def Uc(x:List Nat):∀l,l.Pairwise (λa b=>xh a b=true)->(LX x l).Pairwise λa b=>xh a b=true
 | [],_=>List.pairwise_singleton ..
 | y::l,h=>by
  obtain⟨h1,h2⟩:=List.pairwise_cons.1 h;rw[LX];cases g:xh x y
  ·refine List.pairwise_cons.2 ⟨λz hz=>?_,Uc x l h2⟩
   rcases t7 ((S7 x l).mem_iff.1 hz) with rfl | hz
   ·have:=LZ z y;rw[g] at this;simpa using this
   ·exact h1 z hz
  ·refine List.pairwise_cons.2 ⟨λz hz=>?_,h⟩
   rcases t7 hz with rfl | hz
   ·exact g
   ·exact L0 _ _ _ g (h1 z hz)
def GY:∀l,(eh l).Pairwise λa b=>xh a b=true
 | []=>.nil
 | x::l=>Uc x _ (GY l)
def Ap{l ks:List (List Nat)}(hp:ks.Perm l)(hs:rm ks):ks=eh l:=by
 have h2:(eh l).Pairwise λa b=>xh a b=true:=GY l
 have h1:ks.Pairwise λa b=>xh a b=true:=by
  unfold rm at hs;refine hs.imp ?_;intro a b h;unfold xh;rw[h];rfl
 have hq:ks.Perm (eh l):=hp.trans (qo l).symm;exact Perm.eq_of_pairwise (λa b _ _ h1 h2=>F8 h1 h2) h1 h2 hq
def K3(l:List (List Nat)):(l.map qw).flatten=l.map AV.str:=by
 induction l with
 | nil=>rfl
 | cons a l ih=>rw[bF,List.flatten_cons,ih];rfl
def yO:∀l:List (List Nat),iY (l.flatMap (aD ah))=some (l.map AV.str)
 | []=>rfl
 | a::l=>by
  show iY (ah a::l.flatMap (aD ah))=_;rw[iY,cR,m7,yO l];rfl
def AW(l:List (List Nat))(hlen:l.length<=1000000)(hne:l≠[]):SC prog 56 [.buf 0 l.length 1 none] [.cells (l.flatMap (aD ah))] [] (λr S'=>r=.cx []/\S'=[.cells ((eh l).flatMap (aD ah))]):=by
 have hl2:(eh l).length=l.length:=(qo l).length_eq;refine SC.row (by rw[DC,DC,hl2]) (λθ ρ xs hx=>mw hx (OU _)) ?_;intro E θ ρ h avs asx bX hl hR hA ho hV ⟨⟨x,y⟩,hf,hxy,b1,b2,b3,b4⟩;have has:=oL hV (yO l);subst has;rw[aK] at hA;obtain⟨a,r,rfl,hA1,hA2⟩:=hA;rw[aZ] at hA2;subst hA2;rw[VS] at hA1;subst hA1
 have hout:M9 0 h (.slice (some ((θ 0).id,0)) l.length 1 none) 1 (l.map qw):=by
  refine⟨Ai l,.inr ⟨(θ 0).id,bX,x,y,by simpa using hne,by rw[am],by rw[K3];exact ho,hf,hxy,bt _,bt _,bt _,bt _,b4,b1,b2,b3⟩⟩
 refine(wS l _ 0 h hout hlen).mono ?_;rintro v h' ⟨rfl,ks',hp,hs,_,_,hst⟩;have:=Ap hp hs;subst this;refine⟨by rw[VS];exact⟨[],rfl,by rw[aZ]⟩,_,?_,hst _ _ _ _ rfl⟩;rw[K3];exact tL (yO _)
def sg(l:List (List Nat)):List (List Nat):=l.foldl (λacc x=>if acc.getLast?=some x then acc else acc++[x]) []
def Ie(l:List (List Nat))(x:List Nat):sg (l++[x])=if (sg l).getLast?=some x then sg l else sg l++[x]:=by
 unfold sg;rw[co];rfl
variable{α:Type}{l:List α}{i:Nat}
def cq{x:α}(h:l[i]?=some x):l.take (i+1)=l.take i++[x]:=by
 rw[d2,h];rfl
def bY(o e n:Nat):SV:=if n=0 then bH else .buf o n e none
def HV(o:Nat)(l:List α)(enc:α->List SV):List SO:=if l=[] then [] else be o .gone++[.cells (l.flatMap enc)]
def jW(o e:Nat):bY o e 0=bH:=rfl
def Td(o e n:Nat):bY o e (n+1)=.buf o (n+1) e none:=rfl
variable{o:Nat}
def dQ{e n:Nat}(h:¬n=0):bY o e n=.buf o n e none:=v6 h
def DM{α:Type}(o:Nat)(enc:α->List SV):HV o [] enc=[]:=rfl
variable{enc:α->List SV}
def Cn(h:¬l=[]):HV o l enc=be o .gone++[.cells (l.flatMap enc)]:=v6 h
def Gu(o:Nat)(l:List α)(x:α)(enc:α->List SV):HV o (l++[x]) enc=be o .gone++[.cells ((l++[x]).flatMap enc)]:=v6 ge
def aU{α:Type}{enc:α->List SV}{e:Nat}(he:∀x,(enc x).length=e):∀l:List α,(l.flatMap enc).length=l.length*e
 | []=>by simp
 | a::l=>by rw[flatMap_cons,li,he,aU he l,i7,cl,c4]
def dU{e:Nat}(he:∀x,(enc x).length=e)(l:List α):(l.flatMap enc).take (l.length*e)=l.flatMap enc:=
 aj (by rw[aU he];exact aa _)
def kr{e:Nat}(he:∀x,(enc x).length=e)(hg:∀x,cj (enc x)=true)(o:Nat)(l:List α)(x:α):((l.flatMap enc).take (l.length*e)++enc x).map (aP o)=(l++[x]).flatMap enc:=by
 rw[dU he,b7,bV (hg x),bV (aC hg l),bc];simp
def bp(hg:∀x,cj (enc x)=true)(o:Nat)(l:List α):(l.flatMap enc).map (aP o)=l.flatMap enc:=bV (aC hg l)
def Lf{e:Nat}(he:∀x,(enc x).length=e)(hg:∀x,cj (enc x)=true)(l:List α):Wk (HV o l enc) (bY o e l.length) (ao e l enc):=by
 by_cases h:l=[]
 ·subst h;exact Wk.nil _
 ·have h0:¬l.length=0:=λe=>h (t8 e);rw[dQ h0,Cn h];refine Wk.buf (cs:=l.flatMap enc) ?_ ?_ ?_
  ·rw[List.getElem?_append_right (by rw[bw];exact aa _),bw,d3];rfl
  ·rw[dU he];exact cA.refl (aC hg l)
  ·rw[aU he];exact aa _
def uP:PC prog 56 [bH] (·=.a (.cx [])):=by
 intro ρ h avs _ hA;rw[dT] at hA;obtain⟨a,r,rfl,hA1,hA2⟩:=hA;rw[eY] at hA2;subst hA2;rw[GS] at hA1;subst hA1;refine(wS [] _ h.next h ⟨by simp,.inl ⟨rfl,rfl⟩⟩ ge).mono ?_;rintro v h' ⟨rfl,_,_,_,_,ho,_⟩;exact⟨_,ρ,rfl,ho,λid ob hi=>.inl hi,by rw[GS]⟩
def Mx(l:List (List Nat)):List (List Nat):=sg (eh l)
def cL(e:br):(au e).length=14:=rfl
def dq(e:br):au e=[ab e.op,ab e.day,ah e.part,ah e.kind,ah e.aT,ah e.slot,ah e.key,ah e.value,ab e.u1,ab e.u2,ab e.u3,ab e.u4,ab e.u5,ab e.u6]:=rfl
def bU(e:br):cj (au e)=true:=rfl
section
variable {α:Type} {c:α->SV}
def rR(l:List α):l.flatMap (aD c)=l.map c:=by
 induction l with
 | nil=>rfl
 | cons a l ih=>rw[flatMap_cons,ih];rfl
def Ti{l:List α}{x:α}(h:l[i]?=some x):(l.flatMap (aD c))[i]?=some (c x):=by
 rw[rR,a7,h];rfl
def Rj(l:List α):(l.flatMap (aD c)).length=l.length:=by rw[rR,List.length_map]
def OT{l:List α}(y:α)(h:i<l.length):(l.flatMap (aD c)).take i++(c y::(l.flatMap (aD c)).drop (i+1))=(l.set i y).flatMap (aD c):=by
 rw[rR,rR,List.map_set,bd,ut (by rw[am];exact h)]
end
abbrev qT(n:Nat):SV:=ab (n:Int)
def ry(a0 a1 d:Int):Int:=ff (qI a0 d) (qI a1 d)
def ru(a0 a1 d:Int):Int:=dV (qI a0 d) (qI a1 d)
def wG(a0 a1 lo hi:Int)(h:lo<=hi):SC prog 355 [ab lo,ab hi,.ptr 0 0,.ptr 1 0] [.cells [ab a0,ab a1],.cells [bH]] []
 (λr S'=>r=.cx []/\S'=[.cells [ab a0,ab a1],.cells [.buf 4 2 2 none],.gone,.gone,.cells [ab (ry a0 a1 lo),ab (ru a0 a1 lo),ab (ry a0 a1 hi),ab (ru a0 a1 hi)]]):=by
 refine Ss 40 ds ?_;refine(aB (show decide (lo<=hi)=true by simpa using h)) ?_
 (repeat refine aE.seq ?_)
 refine aE.yes rfl ?_;refine(zV) ?_
 (repeat refine aE.seq ?_)
 refine aE.block (aE.loop (λm st=>
  (m=2/\st=⟨[(2,.ptr 0 0),(3,.ptr 1 0),(15,.buf 2 2 1 (some 2)),(16,ab 2),(17,ab 0),(1000000,.ptr 0 0),(1000001,.ptr 1 0)],40,[.cells [ab a0,ab a1],.cells [bH],.cells [ab lo,ab hi]],[]⟩)\/
  (m=1/\st=⟨[(2,.ptr 0 0),(3,.ptr 1 0),(15,.buf 2 2 1 (some 2)),(16,ab 2),(17,ab 1),(1000000,.ptr 0 0),(1000001,.ptr 1 0)],40,[.cells [ab a0,ab a1],.cells [.buf 4 1 2 none],.cells [ab lo,ab hi],.gone,.cells [ab (ry a0 a1 lo),ab (ru a0 a1 lo)]],[]⟩)\/
  (m=0/\st=⟨[(2,.ptr 0 0),(3,.ptr 1 0),(15,.buf 2 2 1 (some 2)),(16,ab 2),(17,ab 2),(1000000,.ptr 0 0),(1000001,.ptr 1 0)],40,[.cells [ab a0,ab a1],.cells [.buf 4 2 2 none],.cells [ab lo,ab hi],.gone,.cells [ab (ry a0 a1 lo),ab (ru a0 a1 lo),ab (ry a0 a1 hi),ab (ru a0 a1 hi)]],[]⟩)) 2 zH (.inl ⟨rfl,rfl⟩) (by rintro m st (⟨_,rfl⟩ | ⟨_,rfl⟩ | ⟨_,rfl⟩)<;>rfl) ?_)
 rintro m st (⟨rfl,rfl⟩ | ⟨rfl,rfl⟩ | ⟨rfl,rfl⟩)
 ·refine(xw)<|(zB)<|(zV)<|(zs) ?_;refine nw [0,1,0,7,0,16,0,127,255,511] ?_;refine(zD)<|(yd (ij a0 lo))<|(zD)<|(yd (ij a1 lo))<|(zD)<|(zM)<|(aB (bm @jo @fp))<|(zV) ?_;exact⟨1,_,by omega,(cg (bm @ry.eq_1 @ru.eq_1)),.inr (.inl ⟨rfl,rfl⟩)⟩
 ·refine(xw)<|(zB)<|(zV)<|(zs) ?_;refine nw [0,1,0,7,0,16,0,127,255,511] ?_;refine(zD)<|(yd (ij a0 hi))<|(zD)<|(yd (ij a1 hi))<|(zD)<|(zM)<|(aB (bm @jo @fp))<|(zV) ?_;exact⟨0,_,by omega,(cg (bm @ry.eq_1 @ru.eq_1)),.inr (.inr ⟨rfl,rfl⟩)⟩
 ·refine(CP)<|zA [(1000000,.ptr 0 0),(1000001,.ptr 1 0)] [.cells [ab a0,ab a1],.cells [.buf 4 2 2 none],.gone,.gone,.cells [ab (ry a0 a1 lo),ab (ru a0 a1 lo),ab (ry a0 a1 hi),ab (ru a0 a1 hi)]] zH ?_;refine aE.exit ?_
  simp only[ea,cz,bI,bx,if_true];exact zP []
def G8(a0 a1 lo hi:Int)(h:¬lo<=hi):SC prog 355 [ab lo,ab hi,.ptr 0 0,.ptr 1 0] [.cells [ab a0,ab a1],.cells [bH]] []
 (λr S'=>r=.cx []/\S'=[.cells [ab a0,ab a1],.cells [bH]]):=by
 refine Ss 40 ds ?_;refine(aB (show decide (lo<=hi)=false by simpa using h)) ?_
 (repeat refine aE.seq ?_)
 refine aE.no rfl ?_;refine aE.skip ?_
 (try simp only[ea,cz,bI,bx])
 exact zP []
def q0(a0 a1 lo hi:Int)(n:Nat)(cs:List SV)(h:¬lo<=hi):SC prog 355 [ab lo,ab hi,.ptr 0 0,.ptr 1 0] [.cells [ab a0,ab a1],.cells [.buf 2 n 2 none],.cells cs] []
 (λr S'=>r=.cx []/\S'=[.cells [ab a0,ab a1],.cells [.buf 2 n 2 none],.cells cs]):=by
 refine UX 40 ds ?_;refine(aB (show decide (lo<=hi)=false by simpa using h)) ?_
 (repeat refine aE.seq ?_)
 refine aE.no rfl ?_;refine aE.skip ?_
 (try simp only[ea,cz,bI,bx])
 exact zP []
def cQ(p:Int×Int):List SV:=[ab p.1,ab p.2]
def rz(p:Int×Int):(cQ p).length=2:=rfl
def mB(p:Int×Int):cj (cQ p)=true:=rfl
def wD(a0 a1 lo hi:Int)(rows:List (Int×Int))(hlen:rows.length<=1000)(h:lo<=hi):SC prog 355 [ab lo,ab hi,.ptr 0 0,.ptr 1 0] [.cells [ab a0,ab a1],.cells [.buf 2 rows.length 2 none],.cells (rows.flatMap cQ)] [2]
 (λr S'=>r=.cx []/\S'=[.cells [ab a0,ab a1],.cells [.buf 2 (rows.length+1+1) 2 none],.cells ((rows++[(ry a0 a1 lo,ru a0 a1 lo)]++[(ry a0 a1 hi,ru a0 a1 hi)]).flatMap cQ)]):=by
 refine UX 40 ds ?_;have step:∀(l:List (Int×Int)) (x y:Int),((l.flatMap cQ).take (l.length*2)++[ab x,ab y]).map (aP 2)=(l++[(x,y)]).flatMap cQ:=λl x y=>kr rz mB 2 l (x,y);have hcl:∀l:List (Int×Int),(l.flatMap cQ).length=l.length*2:=aU rz;have hkc:∀(o:Nat) (l:List (Int×Int)),(l.flatMap cQ).map (aP o)=l.flatMap cQ:=λo l=>bp mB o l;refine(aB (show decide (lo<=hi)=true by simpa using h)) ?_
 (repeat refine aE.seq ?_)
 refine aE.yes rfl ?_;refine(aB hkc) ?_
 (repeat refine aE.seq ?_)
 refine aE.block (aE.loop (λm st=>∃q:List (Int×Int),
  (m=2/\q=rows/\st=⟨[(2,.ptr 0 0),(3,.ptr 1 0),(15,.buf 3 2 1 (some 2)),(16,ab 2),(17,ab 0),(1000000,.ptr 0 0),(1000001,.ptr 1 0)],40,[.cells [ab a0,ab a1],.cells [.buf 2 q.length 2 none],.cells (q.flatMap cQ),.cells [ab lo,ab hi]],[]⟩)\/
  (m=1/\q=rows++[(ry a0 a1 lo,ru a0 a1 lo)]/\st=⟨[(2,.ptr 0 0),(3,.ptr 1 0),(15,.buf 3 2 1 (some 2)),(16,ab 2),(17,ab 1),(1000000,.ptr 0 0),(1000001,.ptr 1 0)],40,[.cells [ab a0,ab a1],.cells [.buf 2 q.length 2 none],.cells (q.flatMap cQ),.cells [ab lo,ab hi]],[]⟩)\/
  (m=0/\q=rows++[(ry a0 a1 lo,ru a0 a1 lo)]++[(ry a0 a1 hi,ru a0 a1 hi)]/\st=⟨[(2,.ptr 0 0),(3,.ptr 1 0),(15,.buf 3 2 1 (some 2)),(16,ab 2),(17,ab 2),(1000000,.ptr 0 0),(1000001,.ptr 1 0)],40,[.cells [ab a0,ab a1],.cells [.buf 2 q.length 2 none],.cells (q.flatMap cQ),.cells [ab lo,ab hi]],[]⟩)) 2 zH ⟨rows,.inl ⟨rfl,rfl,rfl⟩⟩ (by rintro m st ⟨q,⟨_,_,rfl⟩ | ⟨_,_,rfl⟩ | ⟨_,_,rfl⟩⟩<;>rfl) ?_)
 rintro m st ⟨q,⟨rfl,hq,rfl⟩ | ⟨rfl,hq,rfl⟩ | ⟨rfl,hq,rfl⟩⟩
 ·have hql:q.length<=1000000:=by rw[hq];omega
  refine(xw)<|(zB)<|(zV)<|(zs) ?_;refine nw [0,1,0,7,0,16,0,127,255,511] ?_;refine(zD)<|(yd (ij a0 lo))<|(zD)<|(yd (ij a1 lo))<|(zD)<|(zM)<|(aB (EY @jo @fp hkc hcl step hql @aa))<|(zV) ?_;refine⟨1,_,by omega,(cg (vc @ry.eq_1 @ru.eq_1 hq @li.{0} @i7.{0} @i5.{0})),q++[(ry a0 a1 lo,ru a0 a1 lo)],.inr (.inl ⟨rfl,by rw[hq],rfl⟩)⟩
 ·have hql:q.length<=1000000:=by rw[hq,li];simp only[i7,i5];omega
  refine(xw)<|(zB)<|(zV)<|(zs) ?_;refine nw [0,1,0,7,0,16,0,127,255,511] ?_;refine(zD)<|(yd (ij a0 hi))<|(zD)<|(yd (ij a1 hi))<|(zD)<|(zM)<|(aB (EY @jo @fp hkc hcl step hql @aa))<|(zV) ?_;refine⟨0,_,by omega,(cg (vc @ry.eq_1 @ru.eq_1 hq @li.{0} @i7.{0} @i5.{0})),q++[(ry a0 a1 hi,ru a0 a1 hi)],.inr (.inr ⟨rfl,by rw[hq],rfl⟩)⟩
 ·refine(CP) ?_;rw[show q.length=rows.length+1+1 by rw[hq];simp];refine zA [(1000000,.ptr 0 0),(1000001,.ptr 1 0)] [.cells [ab a0,ab a1],.cells [.buf 2 (rows.length+1+1) 2 none],.cells (q.flatMap cQ)] zH ?_;refine aE.exit ?_;simp only[ea,cz,bI,bx,if_true];exact zP [] (hq:=by (try simp only[eC,bK]);first | done | (rw[hq];first | exact⟨rfl,rfl⟩ | exact⟨trivial,rfl⟩ | exact⟨rfl,trivial⟩ | exact⟨trivial,trivial⟩))
def cT(a0 a1 lo hi:Int):List (Int×Int):=if lo<=hi then [(ry a0 a1 lo,ru a0 a1 lo)]++[(ry a0 a1 hi,ru a0 a1 hi)] else []
def l9(a0 a1 b0 b1:Int):List (Int×Int):=(if b0<=0/\0<=b1 then [(0,0)] else [])++cT a0 a1 (dV b0 1) b1++cT a0 a1 b0 (ff b1 (-1))
def iZ(x y:Int×Int):Int×Int:=mg x.1 x.2 y.1 y.2
def jN(a0 a1 b0 b1:Int):Int×Int:=(l9 a0 a1 b0 b1).foldl iZ ((l9 a0 a1 b0 b1).headD (0,0))
def vm{f:α->α->α}{x a:α}(h:l[i]?=some x):(l.take (i+1)).foldl f a=f ((l.take i).foldl f a) x:=by
 rw[d2,h,Option.toList_some,co];rfl
def G9(a0 a1 b0 b1:Int)(hb:b0<=b1):PC prog 351 [ly a0 a1,ly b0 b1] (·=oG (jN a0 a1 b0 b1)):=by
 refine pB 51 Tryz.func351 ?_;have hkc:∀(o:Nat) (l:List (Int×Int)),(l.flatMap cQ).map (aP o)=l.flatMap cQ:=λo l=>bp mB o l;have hrc:∀(g:Nat->Nat) (l:List (Int×Int)),mG g (l.flatMap cQ)=l.flatMap cQ:=λg l=>bl (aC mB l);have hbc:∀(B:Nat) (l:List (Int×Int)),iy B (l.flatMap cQ)=true:=λB l=>bM (aC mB l);have hcl:∀l:List (Int×Int),(l.flatMap cQ).length=l.length*2:=aU rz
 refine(aB @ly.eq_1)<|(zV) ?_
 by_cases hz:b0<=0/\0<=b1
 ·refine(aB (bm (show decide (b0<=0)=true by simpa using hz.1) (show decide (0<=b1)=true by simpa using hz.2)))<|(cK)<|(zV) ?_
  have hm1:dV b0 1=1:=by unfold dV;split<;>omega
  have d1:l9 a0 a1 b0 b1=([(0,0)]++cT a0 a1 1 b1)++cT a0 a1 b0 (ff b1 (-1)):=by rw[l9,ut hz,hm1]
  (repeat refine aE.seq ?_)
  refine aE.mono (Q:=λe st=>e=.normal/\Fg st ⟨[(3,.ptr 1 0),(4,.ptr 2 0),(5,.ptr 3 0),(6,.fn 355 [] [.ptr 0 0,.ptr 3 0])],51,[.cells [ab a0,ab a1],.cells [ab b0,ab b1],.cells [ab 0,ab 0],.cells [.buf 5 ([(0,0)]++cT a0 a1 1 b1).length 2 none],.gone,.cells (([(0,0)]++cT a0 a1 1 b1).flatMap cQ)],[]⟩) ?_ ?_
  ·by_cases h1:(1:Int)<=b1
   ·refine(eQ (bm @fp hm1)) ?_;have hd:=wD a0 a1 1 b1 [(0,0)] g9 h1;rw[show[((0:Int),(0:Int))].flatMap cQ=[ab 0,ab 0] from rfl,show[((0:Int),(0:Int))].length=1 from rfl] at hd;refine zS [0,3,5] (cJ hrc hbc hkc) hd ?_;refine(zR) ?_;refine⟨rfl,(Fg.less (by (simp only[cY,bP,fU,↓reduceIte,a8,cT,ut h1,li,i7,i5,a6])<;>(repeat' apply bs)<;>first | rfl | trivial) (by (simp only[cY,bP,or_true,true_or,cT,ut h1,li,i7,i5,a6])<;>(repeat' apply bs)<;>first | exact .inr rfl | exact .inl rfl | trivial))⟩
   ·refine(eQ (bm @fp hm1)) ?_;have hd:=q0 a0 a1 1 b1 1 [ab 0,ab 0] h1;refine zS [0,3,5] (cJ hrc hbc hkc) hd ?_;refine(zR) ?_;refine⟨rfl,(Fg.less (by (simp only[cY,bP,fU,↓reduceIte,a8,cT,v6 h1,append_nil,i7,i5,flatMap_cons,flatMap_nil,cQ])<;>(repeat' apply bs)<;>first | rfl | trivial) (by (simp only[cY,bP,or_true,true_or,cT,v6 h1,append_nil,i7,i5,flatMap_cons,flatMap_nil,cQ])<;>(repeat' apply bs)<;>first | exact .inr rfl | exact .inl rfl | trivial))⟩
  rintro e st ⟨rfl,hfg⟩;refine aE.fg hfg ?_;clear hfg
  (try change aE _ _ _ _ _)
  have hq1:([(0,0)]++cT a0 a1 1 b1).length<=1000:=by
   unfold cT;split<;>simp
  (repeat refine aE.seq ?_)
  refine aE.mono (Q:=λe st=>e=.normal/\Fg st ⟨[(3,.ptr 1 0),(4,.ptr 2 0),(5,.ptr 3 0),(6,.fn 355 [] [.ptr 0 0,.ptr 3 0])],51,[.cells [ab a0,ab a1],.cells [ab b0,ab b1],.cells [ab 0,ab 0],.cells [.buf 5 (([(0,0)]++cT a0 a1 1 b1)++cT a0 a1 b0 (ff b1 (-1))).length 2 none],.gone,.cells ((([(0,0)]++cT a0 a1 1 b1)++cT a0 a1 b0 (ff b1 (-1))).flatMap cQ)],[]⟩) ?_ ?_
  ·generalize ([(0,0)]++cT a0 a1 1 b1)=q1 at hq1;by_cases h2:b0<=ff b1 (-1)
   ·refine(eQ @jo) ?_;have hd:=wD a0 a1 b0 (ff b1 (-1)) q1 hq1 h2;refine zS [0,3,5] (cJ hrc hbc hkc) hd ?_;refine(zR) ?_;refine⟨rfl,(Fg.less (by (simp only[cY,bP,fU,↓reduceIte,a8,cT,ut h2,li,i7,i5,a6])<;>(repeat' apply bs)<;>first | rfl | trivial) (by (simp only[cY,bP,or_true,true_or,cT,ut h2,li,i7,i5,a6])<;>(repeat' apply bs)<;>first | exact .inr rfl | exact .inl rfl | trivial))⟩
   ·refine(eQ @jo) ?_;have hd:=q0 a0 a1 b0 (ff b1 (-1)) q1.length (q1.flatMap cQ) h2;refine zS [0,3,5] (cJ hrc hbc hkc) hd ?_;refine(zR) ?_;refine⟨rfl,(Fg.less (by (simp only[cY,bP,fU,↓reduceIte,a8,cT,v6 h2,append_nil])<;>(repeat' apply bs)<;>first | rfl | trivial) (by (simp only[cY,bP,or_true,true_or,cT,v6 h2,append_nil])<;>(repeat' apply bs)<;>first | exact .inr rfl | exact .inl rfl | trivial))⟩
  rintro e st ⟨rfl,hfg⟩;refine aE.fg hfg ?_;clear hfg
  (try change aE _ _ _ _ _)
  obtain⟨rows,hrows⟩:∃rows,rows=(([(0,0)]++cT a0 a1 1 b1)++cT a0 a1 b0 (ff b1 (-1))):=⟨_,rfl⟩
  have hne:rows≠[]:=by rw[hrows];simp
  obtain⟨x0,hr0⟩:∃x0,rows[0]?=some x0:=by
   cases h:rows with
   | nil=>exact un h hne
   | cons x r=>exact⟨x,rfl⟩
  have h0r:0<rows.length:=bo hr0
  have hlen:rows.length<=1000000:=by rw[hrows];(unfold cT;split<;>split<;>simp)
  have hD:jN a0 a1 b0 b1=rows.foldl iZ x0:=by rw[jN,d1,<-hrows,show rows.headD (0,0)=x0 by cases rows with | nil=>exact un rfl hne | cons x r=>simpa using hr0]
  have ht2:(rows.flatMap cQ).take 2=[ab x0.1,ab x0.2]:=by
   have:=aL (e:=2) (enc:=cQ) gc hr0
   rwa [bk,ce] at this
  rw[<-hrows];clear hrows
  refine(aB (EY (show df (.int .i64 0)=some 0 from rfl) @bk h0r hkc hcl ht2 (show 2<=rows.length*2 by omega)))<|(zV)<|(zs) ?_;refine zL rows (λk=>True) (λk=>[(4,.ptr 2 0),(7,.ptr 6 0),(40,.buf 5 rows.length 2 none),(41,ab rows.length),(42,ab k)]) (λk=>[.gone,.gone,.cells [ab 0,ab 0],.gone,.gone,.cells (rows.flatMap cQ),.cells [ab ((rows.take k).foldl iZ x0).1,ab ((rows.take k).foldl iZ x0).2]]) (cg (cJ @take_zero.{0} @foldl_nil.{0,0} hkc)) zp ?_;intro k hk hall;refine zT rows k ?_ ?_;rintro rfl;rotate_left;intro x hx hlt;rotate_left
  ·refine(fo) ?_;rw[bb]
   exact(zV)<|zo [.cell 4 52] (hq:=by rw[hD,oG,ly])
  have hst:=vm (f:=iZ) (a:=x0) hx;obtain⟨p,q,hpq⟩:∃p q,(rows.take k).foldl iZ x0=(p,q):=⟨_,_,rfl⟩;rw[hpq] at hst ⊢
  refine(fw)<|(aB (vc hlt (aL (e:=2) (enc:=cQ) gc hx) @cQ.eq_1 hcl (show k*2+2<=rows.length*2 by omega) hkc))<|(zC)<|(zK (od p q x.1 x.2))<|(cM (bm @oG.eq_1 @ly.eq_1))<|(aB (zi hlt hlen)) ?_;refine zX hlt (cg (cJ hst @iZ.eq_1 hkc)) trivial
 by_cases hp:1<=b0
 ·refine(aB (show decide (b0<=0)=false by simp;omega))<|(lD) ?_
  have hm1:dV b0 1=b0:=by unfold dV;split<;>omega
  have hm2:ff b1 (-1) = -1:=by unfold ff;split<;>omega
  have d1:l9 a0 a1 b0 b1=[(ry a0 a1 b0,ru a0 a1 b0),(ry a0 a1 b1,ru a0 a1 b1)]:=by rw[l9,v6 hz,hm1,hm2,cT,ut hb,cT,v6 i4];rfl
  refine(eQ (bm @fp hm1)) ?_;have hd:=wG a0 a1 b0 b1 hb
  refine zS [0,3] (cJ hrc hbc hkc) hd ?_;refine(zR)<|(eQ (bm @jo hm2)) ?_
  have hd2:=q0 a0 a1 b0 (-1) 2 [ab (ry a0 a1 b0),ab (ru a0 a1 b0),ab (ry a0 a1 b1),ab (ru a0 a1 b1)] i4;refine zS [0,3,6] (cJ hrc hbc hkc) hd2 ?_;refine(zR) ?_;obtain⟨rows,hrows⟩:∃rows,rows=[(ry a0 a1 b0,ru a0 a1 b0),(ry a0 a1 b1,ru a0 a1 b1)]:=⟨_,rfl⟩
  have hne:rows≠[]:=by rw[hrows];simp
  obtain⟨x0,hr0⟩:∃x0,rows[0]?=some x0:=by
   cases h:rows with
   | nil=>exact un h hne
   | cons x r=>exact⟨x,rfl⟩
  have h0r:0<rows.length:=bo hr0
  have hlen:rows.length<=1000000:=by rw[hrows];simp
  have hD:jN a0 a1 b0 b1=rows.foldl iZ x0:=by rw[jN,d1,<-hrows,show rows.headD (0,0)=x0 by cases rows with | nil=>exact un rfl hne | cons x r=>simpa using hr0]
  have ht2:(rows.flatMap cQ).take 2=[ab x0.1,ab x0.2]:=by
   have:=aL (e:=2) (enc:=cQ) gc hr0
   rwa [bk,ce] at this
  rw[show([ab (ry a0 a1 b0),ab (ru a0 a1 b0),ab (ry a0 a1 b1),ab (ru a0 a1 b1)]:List SV)=rows.flatMap cQ by rw[hrows];rfl,show(SV.buf 6 2 2 none)=.buf 6 rows.length 2 none by rw[hrows];rfl];clear hrows
  refine(aB (EY (show df (.int .i64 0)=some 0 from rfl) @bk h0r hkc hcl ht2 (show 2<=rows.length*2 by omega)))<|(zV)<|(zs) ?_;refine zL rows (λk=>True) (λk=>[(4,.ptr 2 0),(7,.ptr 7 0),(40,.buf 6 rows.length 2 none),(41,ab rows.length),(42,ab k)]) (λk=>[.gone,.gone,.cells [ab 0,ab 0],.gone,.gone,.gone,.cells (rows.flatMap cQ),.cells [ab ((rows.take k).foldl iZ x0).1,ab ((rows.take k).foldl iZ x0).2]]) (cg (cJ @take_zero.{0} @foldl_nil.{0,0} hkc)) zp ?_;intro k hk hall;refine zT rows k ?_ ?_;rintro rfl;rotate_left;intro x hx hlt;rotate_left
  ·refine(fo) ?_;rw[bb]
   exact(zV)<|zo [.cell 4 52] (hq:=by rw[hD,oG,ly])
  have hst:=vm (f:=iZ) (a:=x0) hx;obtain⟨p,q,hpq⟩:∃p q,(rows.take k).foldl iZ x0=(p,q):=⟨_,_,rfl⟩;rw[hpq] at hst ⊢
  refine(fw)<|(aB (vc hlt (aL (e:=2) (enc:=cQ) gc hx) @cQ.eq_1 hcl (show k*2+2<=rows.length*2 by omega) hkc))<|(zC)<|(zK (od p q x.1 x.2))<|(cM (bm @oG.eq_1 @ly.eq_1))<|(aB (zi hlt hlen)) ?_;refine zX hlt (cg (cJ hst @iZ.eq_1 hkc)) trivial
 ·have hn:b1 <= -1:=by omega
  by_cases hq0:b0<=0;rotate_left
  ·omega
  refine(aB (bm (show decide (b0<=0)=true by simpa using hq0) (show decide (0<=b1)=false by simp;omega)))<|(lD) ?_
  have hm1:dV b0 1=1:=by unfold dV;split<;>omega
  have hm2:ff b1 (-1)=b1:=by unfold ff;split<;>omega
  have d1:l9 a0 a1 b0 b1=[(ry a0 a1 b0,ru a0 a1 b0),(ry a0 a1 b1,ru a0 a1 b1)]:=by rw[l9,v6 hz,hm1,hm2,cT,v6 i4,cT,ut hb];rfl
  refine(eQ (bm @fp hm1)) ?_;have hd:=G8 a0 a1 1 b1 i4
  refine zS [0,3] (cJ hrc hbc hkc) hd ?_;refine(zR)<|(eQ (bm @jo hm2)) ?_
  have hd2:=wG a0 a1 b0 b1 hb;refine zS [0,3] (cJ hrc hbc hkc) hd2 ?_;refine(zR) ?_;obtain⟨rows,hrows⟩:∃rows,rows=[(ry a0 a1 b0,ru a0 a1 b0),(ry a0 a1 b1,ru a0 a1 b1)]:=⟨_,rfl⟩
  have hne:rows≠[]:=by rw[hrows];simp
  obtain⟨x0,hr0⟩:∃x0,rows[0]?=some x0:=by
   cases h:rows with
   | nil=>exact un h hne
   | cons x r=>exact⟨x,rfl⟩
  have h0r:0<rows.length:=bo hr0
  have hlen:rows.length<=1000000:=by rw[hrows];simp
  have hD:jN a0 a1 b0 b1=rows.foldl iZ x0:=by rw[jN,d1,<-hrows,show rows.headD (0,0)=x0 by cases rows with | nil=>exact un rfl hne | cons x r=>simpa using hr0]
  have ht2:(rows.flatMap cQ).take 2=[ab x0.1,ab x0.2]:=by
   have:=aL (e:=2) (enc:=cQ) gc hr0
   rwa [bk,ce] at this
  rw[show([ab (ry a0 a1 b0),ab (ru a0 a1 b0),ab (ry a0 a1 b1),ab (ru a0 a1 b1)]:List SV)=rows.flatMap cQ by rw[hrows];rfl,show(SV.buf 6 2 2 none)=.buf 6 rows.length 2 none by rw[hrows];rfl];clear hrows
  refine(aB (EY (show df (.int .i64 0)=some 0 from rfl) @bk h0r hkc hcl ht2 (show 2<=rows.length*2 by omega)))<|(zV)<|(zs) ?_;refine zL rows (λk=>True) (λk=>[(4,.ptr 2 0),(7,.ptr 7 0),(40,.buf 6 rows.length 2 none),(41,ab rows.length),(42,ab k)]) (λk=>[.gone,.gone,.cells [ab 0,ab 0],.gone,.gone,.gone,.cells (rows.flatMap cQ),.cells [ab ((rows.take k).foldl iZ x0).1,ab ((rows.take k).foldl iZ x0).2]]) (cg (cJ @take_zero.{0} @foldl_nil.{0,0} hkc)) zp ?_;intro k hk hall;refine zT rows k ?_ ?_;rintro rfl;rotate_left;intro x hx hlt;rotate_left
  ·refine(fo) ?_;rw[bb]
   exact(zV)<|zo [.cell 4 52] (hq:=by rw[hD,oG,ly])
  have hst:=vm (f:=iZ) (a:=x0) hx;obtain⟨p,q,hpq⟩:∃p q,(rows.take k).foldl iZ x0=(p,q):=⟨_,_,rfl⟩;rw[hpq] at hst ⊢
  refine(fw)<|(aB (vc hlt (aL (e:=2) (enc:=cQ) gc hx) @cQ.eq_1 hcl (show k*2+2<=rows.length*2 by omega) hkc))<|(zC)<|(zK (od p q x.1 x.2))<|(cM (bm @oG.eq_1 @ly.eq_1))<|(aB (zi hlt hlen)) ?_;refine zX hlt (cg (cJ hst @iZ.eq_1 hkc)) trivial
structure iV where
 u1:Int
 u2:Int
 u3:Int
 u4:Int
 u5:Int
 u6:Int
def ek(u:iV):List SV:=[ab u.u1,ab u.u2,ab u.u3,ab u.u4,ab u.u5,ab u.u6]
def nN(u:iV)(op:Int):Int×Int:=if op=2 then (u.u1,u.u2) else if op=3 then (u.u3,u.u4) else (u.u5,u.u6)
def applyN(op:Int)(a b:Int×Int):Int×Int:=
 if op=5 then eD gH a.1 a.2 b.1 b.2 else if op=6 then eD DH a.1 a.2 b.1 b.2 else if op=7 then eD Au a.1 a.2 b.1 b.2
 else if op=9 then (ff a.1 b.1,ff a.2 b.2) else if op=10 then (dV a.1 b.1,dV a.2 b.2) else jN a.1 a.2 b.1 b.2
def nI(a b c:Int×Int):Int×Int:=if pa a.1 a.2 0=2 then b else if pa a.1 a.2 0=0 then c else mg b.1 b.2 c.1 c.2
def EA(u:iV)(n:Int):PC prog 348 [.ag (ek u),ab n] (·=oG (n,n)):=by
 refine pB 8 Tryz.func348 ?_;exact(aB @ek.eq_1)<|(zV)<|zo [.cell 4 52]
def Es(u:iV)(op:Int):PC prog 347 [.ag (ek u),ab op] (·=oG (nN u op)):=by
 refine pB 19 Tryz.func347 ?_;refine(aB @ek.eq_1)<|(zV)<|(zB) ?_
 cases h1:decide (op=2);rotate_left
 ·exact(aB h1)<|(cK)<|zo [.cell 4 52] (hq:=by rw[nN,ut (ww h1)];rfl)
 refine(aB h1)<|(zN) ?_
 cases h2:decide (op=3);rotate_left
 ·exact(aB h2)<|(cK)<|zo [.cell 4 52] (hq:=by rw[nN,v6 (wt h1),ut (ww h2)];rfl)
 exact(aB h2)<|(lD)<|zo [.cell 4 52] (hq:=by rw[nN,v6 (wt h1),v6 (wt h2)];rfl)
def Ea(u:iV)(a b c:Int×Int):PC prog 346 [.ag (ek u),oG a,oG b,oG c] (·=oG (nI a b c)):=by
 refine pB 20 Tryz.func346 ?_;refine(aB (cJ @ek.eq_1 @oG.eq_1 @ly.eq_1))<|(zC)<|(zK (q7 a.1 a.2 0))<|(zR)<|(zB) ?_
 cases h1:decide (pa a.1 a.2 0=2);rotate_left
 ·exact(aB h1)<|(cK)<|zo [.cell 8 52] (hq:=by rw[nI,ut (ww h1)];rfl)
 refine(aB h1)<|(zN) ?_
 cases h2:decide (pa a.1 a.2 0=0);rotate_left
 ·exact(aB h2)<|(cK)<|zo [.cell 8 52] (hq:=by rw[nI,v6 (wt h1),ut (ww h2)];rfl)
 exact(aB h2)<|(M4)<|(zK (od b.1 b.2 c.1 c.2))<|(cM (bm @oG.eq_1 @ly.eq_1))<|zo [.cell 8 52] (hq:=by rw[nI,v6 (wt h1),v6 (wt h2)];rfl)
def GZ(u:iV)(op:Int)(a b:Int×Int)(hb:b.1<=b.2):PC prog 345 [.ag (ek u),ab op,oG a,oG b] (·=oG (applyN op a b)):=by
 refine pB 54 Tryz.func345 ?_;refine(aB (cJ @ek.eq_1 @oG.eq_1 @ly.eq_1))<|(zV)<|(zB) ?_
 cases h1:decide (op=5);rotate_left
 ·exact(aB h1)<|(zY)<|(zC)<|(zK (qj a.1 a.2 b.1 b.2))<|(cM (bm @oG.eq_1 @ly.eq_1))<|zo [.cell 8 52] (hq:=by rw[applyN,ut (ww h1)];rfl)
 have g1:=wt h1
 refine(aB h1)<|(zN) ?_
 cases h2:decide (op=6);rotate_left
 ·exact(aB h2)<|(zY)<|(zC)<|(zK (Ju a.1 a.2 b.1 b.2))<|(cM (bm @oG.eq_1 @ly.eq_1))<|zo [.cell 8 52] (hq:=by rw[applyN,v6 g1,ut (ww h2)];rfl)
 have g2:=wt h2
 refine(aB h2)<|(zN) ?_
 cases h3:decide (op=7);rotate_left
 ·exact(aB h3)<|(zY)<|(zC)<|(zK (Jt a.1 a.2 b.1 b.2))<|(cM (bm @oG.eq_1 @ly.eq_1))<|zo [.cell 8 52] (hq:=by rw[applyN,v6 g1,v6 g2,ut (ww h3)];rfl)
 have g3:=wt h3
 refine(aB h3)<|(zN) ?_
 cases h4:decide (op=9);rotate_left
 ·exact(aB h4)<|(zY)<|(aB @jo)<|zo [.cell 8 52] (hq:=by rw[applyN,v6 g1,v6 g2,v6 g3,ut (ww h4)];rfl)
 have g4:=wt h4
 refine(aB h4)<|(zN) ?_
 cases h5:decide (op=10);rotate_left
 ·exact(aB h5)<|(zY)<|(aB @fp)<|zo [.cell 8 52] (hq:=by rw[applyN,v6 g1,v6 g2,v6 g3,v6 g4,ut (ww h5)];rfl)
 have g5:=wt h5
 exact(aB h5)<|(M4)<|(zK (G9 a.1 a.2 b.1 b.2 hb))<|(cM (bm @oG.eq_1 @ly.eq_1))<|zo [.cell 8 52] (hq:=by rw[applyN,v6 g1,v6 g2,v6 g3,v6 g4,v6 g5];rfl)
inductive bu where
 | mk (op n:Int) (kids:List bu)
def bu.op:bu->Int
 | .mk op _ _=>op
mutual
def aG:bu->List SV
 | .mk op n kids=>[ab op,ab n,.sl kids.length 3 (qE kids)]
def qE:List bu->List SV
 | []=>[]
 | f::fs=>aG f++qE fs
end
def vY:∀l:List bu,qE l=l.flatMap aG
 | []=>by rw[qE];rfl
 | f::l=>by rw[qE,vY l,flatMap_cons]
def dj(op n:Int)(kids:List bu):aG (.mk op n kids)=[ab op,ab n,.sl kids.length 3 (kids.flatMap aG)]:=by rw[aG,vY]
def e7(f:bu):(aG f).length=3:=by
 obtain⟨op,n,kids⟩:=f;rw[dj];rfl
def aX(f:bu):cj (aG f)=true:=by
 obtain⟨op,n,kids⟩:=f;rw[dj];rfl
inductive gM:bu->Prop
 | mk {op n:Int} {kids:List bu}:kids.length<=1000000->(∀k∈kids,gM k)->gM (.mk op n kids)
mutual
def fJ:bu->Int->Int
 | .mk _ _ kids,most=>ia kids most 1
def ia:List bu->Int->Int->Int
 | [],_,n=>n
 | k::ks,most,n=>if most<n then n else ia ks most (yh n (fJ k (uB most n)))
end
def wM:∀(d:Nat) (f:bu),SizeOf.sizeOf f<d->gM f->∀most:Int,PC Tryz.prog 102 [.ag (aG f),ab most] (·=ab (fJ f most))
 | 0,f,hd,_,_=>un hd (Nat.not_lt_zero _)
 | d+1,.mk op n kids,hd,hf,most=>by
  cases hf with
  | mk hlen hks=>
  have hkd:∀k∈kids,SizeOf.sizeOf k<d:=λk hk=>by
   have h1:=List.sizeOf_lt_of_mem hk
   have h2:SizeOf.sizeOf (bu.mk op n kids)=1+SizeOf.sizeOf op+SizeOf.sizeOf n+SizeOf.sizeOf kids:=by simp
   omega
  rw[dj,fJ]
  refine pB 27 Tryz.func102 ?_;refine(nD)<|(zV)<|(zs) ?_;refine BF kids (λk (acc:Int)=>ia kids most 1=ia (kids.drop k) most acc) (λk acc=>[(1,ab most),(5,ab acc),(9,ao 3 kids aG),(10,ab kids.length),(11,ab k)]) (λk acc=>[]) (1) zH ii ?_;intro k acc hk hall;refine zT kids k ?_ ?_;rintro rfl;rotate_left;intro x hx hlt;rotate_left
  ·exact(fo)<|(zV)<|zo [.tmp 4] (hq:=by rw[hall,List.drop_length,ia])
  rw[eZ hx,ia] at hall;have hxm:=List.mem_of_getElem? hx;have ih:=wM d x (hkd x hxm) (hks x hxm);have hxl:((kids.flatMap aG).drop (k*3)).take 3=aG x:=aL (e:=3) (enc:=aG) e7 hx;obtain⟨op',n',kids'⟩:=x;simp only[dj] at hxl ih
  refine(fw)<|(aB (bm hlt hxl)) ?_
  cases h1:decide (most<acc);rotate_left
  ·refine(aB h1)<|(zY) ?_;refine aE.exit ?_;exact(zV)<|zo [.tmp 4] (hq:=by rw[hall,ut (ww h1)])
  refine(aB h1)<|(zN) ?_
  rw[v6 (wt h1)] at hall
  refine(eQ @oI)<|(zK (ih (uB most acc)))<|(cM @ti)<|(aB (zi hlt hlen)) ?_;refine pw hlt (yh acc (fJ (.mk op' n' kids') (uB most acc))) zH hall
def JC(f:bu)(hf:gM f)(most:Int):PC prog 102 [.ag (aG f),ab most] (·=ab (fJ f most)):=wM _ f (cc _) hf most
def rj(op:Int):Nat:=if op=11 then 3 else if 5<=op then 2 else 0
mutual
def gk:bu->Bool
 | .mk op n kids=>(decide (1<=op)&&decide (op<=11))&&(decide (kids.length=rj op)&&(!(decide (n<0))&&(!(decide (9999999<n))&&!(decide (0<n)&&!(decide (op=1))))))&&ui kids
def ui:List bu->Bool
 | []=>true
 | k::ks=>gk k&&ui ks
end
def sS:∀l:List bu,ui l=l.all gk
 | []=>by rw[ui];rfl
 | a::l=>by rw[ui,sS l,dv]
def wO:∀(d:Nat) (f:bu),SizeOf.sizeOf f<d->gM f->PC Tryz.prog 103 [.ag (aG f)] (·=an (gk f))
 | 0,f,hd,_=>un hd (Nat.not_lt_zero _)
 | d+1,.mk op n kids,hd,hf=>by
  cases hf with
  | mk hlen hks=>
  have hkd:∀k∈kids,SizeOf.sizeOf k<d:=λk hk=>by
   have h1:=List.sizeOf_lt_of_mem hk
   have h2:SizeOf.sizeOf (bu.mk op n kids)=1+SizeOf.sizeOf op+SizeOf.sizeOf n+SizeOf.sizeOf kids:=by simp
   omega
  rw[dj,gk,sS];refine pB 59 Tryz.func103 ?_;refine(nD) ?_
  (repeat refine aE.seq ?_)
  cases h1:decide (op<1);rotate_left
  ·refine aE.block ?_;exact(aB h1)<|(cK)<|zo [.tmp 2] (hq:=by rw[show decide (1<=op)=false by have:=ww h1;simp;omega];rfl)
  cases h2:decide (11<op);rotate_left
  ·refine aE.block ?_;exact(aB (bm h1 h2))<|(cK)<|zo [.tmp 2] (hq:=by rw[show decide (op<=11)=false by have:=ww h2;simp;omega,Bool.and_false];rfl)
  have g1:=wt h1;have g2:=wt h2;rw[show decide (1<=op)=true by simp;omega,show decide (op<=11)=true by simp;omega];refine aE.mono (Q:=λe st=>e=.normal/\Fg st ⟨[(1,.ptr 0 0),(3,qT (rj op))],59,[.cells [ab op,ab n,.sl kids.length 3 (kids.flatMap aG)]],[]⟩) ?_ ?_
  ·refine aE.block ?_;refine(aB (bm h1 h2))<|(zN) ?_
   cases h3:decide (op=11);rotate_left
   ·refine(aB h3)<|(cK) ?_;exact⟨rfl,(Fg.less (by (simp only[cY,bP,fU,↓reduceIte,Nat.reduceEqDiff,rj,ut (ww h3)])<;>(repeat' apply And.intro)<;>first | rfl | trivial) (by (simp only[cY,bP,or_true,true_or,rj,ut (ww h3)])<;>(repeat' apply And.intro)<;>first | exact .inr rfl | exact .inl rfl | trivial))⟩
   refine(aB h3)<|(zN) ?_
   cases h4:decide (5<=op);rotate_left
   ·refine(aB h4)<|(cK) ?_;exact⟨rfl,(Fg.less (by (simp only[cY,bP,fU,↓reduceIte,Nat.reduceEqDiff,rj,v6 (wt h3),ut (ww h4)])<;>(repeat' apply And.intro)<;>first | rfl | trivial) (by (simp only[cY,bP,or_true,true_or,rj,v6 (wt h3),ut (ww h4)])<;>(repeat' apply And.intro)<;>first | exact .inr rfl | exact .inl rfl | trivial))⟩
   ·refine(aB h4)<|(zN) ?_;exact⟨rfl,(Fg.less (by (simp only[cY,bP,fU,↓reduceIte,Nat.reduceEqDiff,rj,v6 (wt h3),v6 (wt h4)])<;>(repeat' apply And.intro)<;>first | rfl | trivial) (by (simp only[cY,bP,or_true,true_or,rj,v6 (wt h3),v6 (wt h4)])<;>(repeat' apply And.intro)<;>first | exact .inr rfl | exact .inl rfl | trivial))⟩
  rintro e st ⟨rfl,hfg⟩;refine aE.fg hfg ?_;clear hfg
  (try change aE _ _ _ _ _)
  generalize rj op=w;by_cases h3:kids.length=w;rotate_left
  ·rw[show decide (kids.length=w)=false by simpa using h3]
   exact(aB (show decide ((kids.length:Int)=(w:Int))=false by simp;omega))<|(cK)<|zo [.tmp 2]
  rw[show decide (kids.length=w)=true by simpa using h3]
  have h3':decide ((kids.length:Int)=(w:Int))=true:=by simp;omega
  cases h4:decide (n<0);rotate_left
  ·exact(aB (bm h3' h4))<|(cK)<|zo [.tmp 2]
  cases h5:decide (9999999<n);rotate_left
  ·exact(aB (cJ h3' h4 h5))<|(cK)<|zo [.tmp 2]
  by_cases h7:(decide (0<n)&&!(decide (op=1)))=true
  ·rw[Bool.and_eq_true,Bool.not_eq_true'] at h7
   exact(aB (kY h3' h4 h5 @h7.1 @h7.2))<|(cK)<|zo [.tmp 2] (hq:=by rw[h7.1,h7.2];rfl)
  have h8:(decide (0<n)&&!(decide (op=1)))=false:=by simpa using h7
  rw[h8]
  (repeat refine aE.seq ?_)
  refine aE.mono (Q:=λe st=>e=.normal/\Fg st ⟨[(1,.ptr 0 0),(47,an false)],59,[.cells [ab op,ab n,.sl kids.length 3 (kids.flatMap aG)]],[]⟩) ?_ ?_
  ·cases h6:decide (0<n)
   ·refine(aB (fk h3' h4 h5 h6)) ?_;exact⟨rfl,zH⟩
   ·rw[h6] at h8
    have h9:decide (op=1)=true:=by
     cases h:decide (op=1) with
     | true=>rfl
     | false=>rw[h] at h8;cases h8
    refine(aB (kY h3' h4 h5 h6 h9)) ?_;exact⟨rfl,zH⟩
  rintro e st ⟨rfl,hfg⟩;refine aE.fg hfg ?_;clear hfg
  (try change aE _ _ _ _ _)
  refine(lD)<|(zs) ?_;refine zL kids (λk=>(kids.take k).all gk=true) (λk=>[(49,ao 3 kids aG),(50,ab kids.length),(51,ab k)]) (λk=>[]) zH zp ?_;intro k hk hall;refine zT kids k ?_ ?_;rintro rfl;rotate_left;intro x hx hlt;rotate_left
  ·refine(fo)<|(zV) ?_
   rw[List.take_length] at hall;exact zo [.tmp 2] (hq:=by rw[hall];rfl)
  have hxm:=List.mem_of_getElem? hx;have ih:=wO d x (hkd x hxm) (hks x hxm);have hxl:((kids.flatMap aG).drop (k*3)).take 3=aG x:=aL (e:=3) (enc:=aG) e7 hx
  have hnext:gk x=true->(kids.take (k+1)).all gk=true:=λh=>by rw[cq hx,List.all_append,hall];simp[h]
  have hbad:gk x=false->kids.all gk=false:=λh=>by rw[List.all_eq_false];exact⟨x,hxm,by rw[h];decide⟩
  obtain⟨op',n',kids'⟩:=x;simp only[dj] at hxl ih
  refine(fw)<|(aB (bm hlt hxl))<|(zC)<|(zK ih) ?_
  cases h10:gk (.mk op' n' kids')
  ·exact(zR)<|(cK)<|zo [.tmp 2] (hq:=by rw[hbad h10];rfl)
  refine(zR)<|(zN)<|(aB (zi hlt hlen)) ?_;refine zX hlt zH (hnext h10)
def AR(f:bu)(hf:gM f):PC prog 103 [.ag (aG f)] (·=an (gk f)):=wO _ f (cc _) hf
def iM(f:bu):Bool:=decide (fJ f 60<=60)&&gk f
def ra(f:bu)(hf:gM f):PC prog 43 [.ag (aG f)] (·=an (Proofs.iM f)):=by
 have hn:=JC f hf 60;have hr:=AR f hf;refine pB 10 Tryz.func43 ?_;have hv:Proofs.iM f=(decide (fJ f 60<=60)&&gk f):=rfl;generalize fJ f 60=N at hn hv;generalize gk f=R at hr hv;obtain⟨op,n,kids⟩:=f;rw[dj] at hn hr ⊢
 refine(jC)<|(zK hn) ?_
 cases h1:decide (N<=60)
 ·exact(cM h1)<|zo [.tmp 2] (hq:=by rw[hv,h1];rfl)
 exact(MY h1)<|(zK hr)<|(zR)<|zo [.tmp 2] (hq:=by rw[hv,h1];rfl)
mutual
def mZ(u:iV):bu->Int×Int
 | .mk op n kids=>
  if op=1 then (n,n) else if op<=4 then nN u op
  else match nY u kids with
   | a::b::l=>if op=11 then (match l with
    | c::_=>nI a b c
    | []=>(0,0)) else applyN op a b
   | _=>(0,0)
def nY(u:iV):List bu->List (Int×Int)
 | []=>[]
 | k::ks=>mZ u k::nY u ks
end
def KB(p q r s:Int):ff (ff (ff p q) r) s<=dV (dV (dV p q) r) s:=by
 have h1:∀a b:Int,ff a b<=a:=λa b=>by unfold ff;split<;>omega
 have h2:∀a b:Int,a<=dV a b:=λa b=>by unfold dV;split<;>omega
 have:=h1 p q;have:=h1 (ff p q) r;have:=h1 (ff (ff p q) r) s;have:=h2 p q;have:=h2 (dV p q) r;have:=h2 (dV (dV p q) r) s;omega
def C6(f:Int->Int->Int)(a b c d:Int):(eD f a b c d).1<=(eD f a b c d).2:=by
 unfold eD;split
 ·exact KB _ _ _ _
 ·exact ci _
def join_le(a b c d:Int):(mg a b c d).1<=(mg a b c d).2:=by
 unfold mg;split
 ·exact KB _ _ _ _
 ·exact ci _
def QJ(l:List (Int×Int))(x:Int×Int)(h:l≠[]):(l.foldl iZ x).1<=(l.foldl iZ x).2:=by
 rcases List.eq_nil_or_concat l with rfl | ⟨a,y,rfl⟩
 ·exact un rfl h
 ·rw[List.concat_eq_append,co];exact join_le _ _ _ _
def LH(a0 a1 b0 b1:Int):(jN a0 a1 b0 b1).1<=(jN a0 a1 b0 b1).2:=by
 unfold jN;by_cases h:l9 a0 a1 b0 b1=[]
 ·rw[h];exact ci _
 ·exact QJ _ _ h
def Ch{a b c d:Int}(h1:a<=b)(h2:c<=d):ff a c<=ff b d/\dV a c<=dV b d:=by
 unfold ff dV;constructor<;>split<;>split<;>omega
def Np(op:Int){a b:Int×Int}(ha:a.1<=a.2)(hb:b.1<=b.2):(applyN op a b).1<=(applyN op a b).2:=by
 unfold applyN;split
 ·exact C6 _ _ _ _ _
 split
 ·exact C6 _ _ _ _ _
 split
 ·exact C6 _ _ _ _ _
 split
 ·exact(Ch ha hb).1
 split
 ·exact(Ch ha hb).2
 ·exact LH _ _ _ _
def Lw{a b c:Int×Int}(hb:b.1<=b.2)(hc:c.1<=c.2):(nI a b c).1<=(nI a b c).2:=by
 unfold nI;split
 ·exact hb
 split
 ·exact hc
 ·exact join_le _ _ _ _
structure iV.ok (u:iV):Prop where
 a:u.u1<=u.u2
 b:u.u3<=u.u4
 c:u.u5<=u.u6
def L3{u:iV}(h:u.ok)(op:Int):(nN u op).1<=(nN u op).2:=by
 unfold nN;split
 ·exact h.a
 split
 ·exact h.b
 ·exact h.c
mutual
def K5{u:iV}(h:u.ok):∀f:bu,(mZ u f).1<=(mZ u f).2
 | .mk op n kids=>by
  have ih:=GW h kids;rw[mZ];split
  ·exact ci _
  split
  ·exact L3 h op
  ·split
   ·rename_i a b l hl;rw[hl] at ih;split
    ·split
     ·exact Lw (ih _ ge) (ih _ ge)
     ·exact ci _
    ·exact Np op (ih _ ge) (ih _ ge)
   ·exact ci _
def GW{u:iV}(h:u.ok):∀l:List bu,∀p∈nY u l,p.1<=p.2
 | [],p,hp=>by rw[nY] at hp;cases hp
 | k::ks,p,hp=>by
  rw[nY] at hp
  rcases t7 hp with rfl | hp
  ·exact K5 h k
  ·exact GW h ks p hp
end
def Ck(P:Program)(nm:String)(t:TypeId)(v:AV)(ys:List AV):Ev.bH P (.a (.fn (.method nm) [.iface t v] ys))=(jn P t nm).map λ_=>.a (.fn (.method nm) [.iface t v] ys):=rfl
def pY(u:iV):SV:=.iface 203 (.ag (ek u))
def Ew:jn prog 203 "bogie/formula.number"=some 348:=by kernel_rfl
def Eu:jn prog 203 "bogie/formula.letter"=some 347:=by kernel_rfl
def wL:jn prog 203 "bogie/formula.apply"=some 345:=by kernel_rfl
def uK:jn prog 203 "bogie/formula.choose"=some 346:=by kernel_rfl
def CM(u:iV)(hu:u.ok):∀(d:Nat) (f:bu),SizeOf.sizeOf f<d->gM f->gk f=true->PC Tryz.prog 121 [pY u,.ag (aG f)] (·=oG (mZ u f))
 | 0,f,hd,_,_=>un hd (Nat.not_lt_zero _)
 | d+1,.mk op n kids,hd,hf,hr=>by
  cases hf with
  | mk hlen hks=>
  have hkd:∀k∈kids,SizeOf.sizeOf k<d:=λk hk=>by
   have h1:=List.sizeOf_lt_of_mem hk
   have h2:SizeOf.sizeOf (bu.mk op n kids)=1+SizeOf.sizeOf op+SizeOf.sizeOf n+SizeOf.sizeOf kids:=by simp
   omega
  rw[dj,mZ]
  refine pB 67 Tryz.func121 ?_;refine(aB (bm @pY.eq_1 @ek.eq_1))<|(zB) ?_
  cases h1:decide (op=1);rotate_left
  ·refine(aB h1)<|(zY) ?_
   rw[ut (ww h1)]
   exact(zC)<|(zK (EA u n) (hc:=yc @Ew))<|(cM (bm @oG.eq_1 @ly.eq_1))<|zo [.cell 4 52]
  rw[v6 (wt h1)]
  refine(aB h1)<|(zN) ?_
  cases h2:decide (op<=4);rotate_left
  ·refine(aB h2)<|(zY) ?_
   rw[ut (ww h2)]
   exact(zC)<|(zK (Es u op) (hc:=yc @Eu))<|(cM (bm @oG.eq_1 @ly.eq_1))<|zo [.cell 4 52]
  rw[v6 (wt h2)]
  refine(aB h2)<|(zN) ?_
  rw[gk,Bool.and_eq_true,Bool.and_eq_true,Bool.and_eq_true,Bool.and_eq_true] at hr;obtain⟨⟨hr1,hr2,_⟩,hr3⟩:=hr;have hop1:=ww hr1.1;have hop2:=ww hr1.2;have hkl:=ww hr2;have h1':=wt h1;have h2':=wt h2;rw[sS] at hr3;have n0:df (.int .i64 0)=some 0:=rfl;have n1:df (.int .i64 1)=some 1:=rfl;have n2:df (.int .i64 2)=some 2:=rfl
  have hkid:∀{j:Nat} {x:bu},kids[j]?=some x->PC Tryz.prog 121 [pY u,.ag (aG x)] (·=oG (mZ u x)):=λ{j x} hx=>by
   have hxm:=List.mem_of_getElem? hx;exact CM u hu d x (hkd x hxm) (hks x hxm) (List.all_eq_true.1 hr3 x hxm)
  have hat:∀{j:Nat} {x:bu},kids[j]?=some x->((kids.flatMap aG).drop (j*3)).take 3=aG x:=λhx=>aL (e:=3) (enc:=aG) e7 hx;cases h3:decide (op=11)
  ·have h3':=wt h3
   have hw:kids.length=2:=by rw[hkl,rj,v6 h3',ut i4]
   obtain⟨x0,x1,hk2⟩:∃x0 x1,kids=[x0,x1]:=by
    match kids,hw with
    | [a,b],_=>exact⟨a,b,rfl⟩
   have e0:kids[0]?=some x0:=by rw[hk2];rfl
   have e1:kids[1]?=some x1:=by rw[hk2];rfl
   have hrun:nY u kids=[mZ u x0,mZ u x1]:=by rw[hk2,nY,nY,nY]
   rw[hrun];simp only[v6 h3'];have hb:=K5 hu x1;have a0:=hat e0;have a1:=hat e1;have k0:=hkid e0;have k1:=hkid e1
   have t0:(kids.flatMap aG).take 3=aG x0:=by rwa [Nat.zero_mul,List.drop_zero] at a0
   rw[pY,ek] at k0 k1;generalize mZ u x0=r0 at k0 ⊢;generalize mZ u x1=r1 at k1 hb ⊢;obtain⟨o0,m0,s0⟩:=x0;obtain⟨o1,m1,s1⟩:=x1;rw[dj] at t0 a1 k0 k1
   have l0:0<kids.length:=by omega
   have l1:1<kids.length:=by omega
   refine(aB h3)<|(zN)<|(zs) ?_;refine nw [0,0,2,0,0,16,48,112,248,0,0,1024,3072,7168,16376,1,32769,98305,262143,524287] ?_;refine(uW (cJ n0 l0 t0))<|(yd (k0))<|(uW (cJ n1 l1 a1))<|(yd (k1))<|(uW (cJ @dk.eq_28 @Ck @wL)) ?_;refine SD.k ii rfl rfl ii rfl rfl (yc @wL) (GZ u op r0 r1 hb) (zw) rfl ?_;refine SD.e ii rfl ii rfl rfl ii zl ?_;exact(zM)<|zo [.cell 4 52]
  ·have h3':=ww h3
   have hw:kids.length=3:=by rw[hkl,rj,ut h3']
   obtain⟨x0,x1,x2,hk2⟩:∃x0 x1 x2,kids=[x0,x1,x2]:=by
    match kids,hw with
    | [a,b,c],_=>exact⟨a,b,c,rfl⟩
   have e0:kids[0]?=some x0:=by rw[hk2];rfl
   have e1:kids[1]?=some x1:=by rw[hk2];rfl
   have e2:kids[2]?=some x2:=by rw[hk2];rfl
   have hrun:nY u kids=[mZ u x0,mZ u x1,mZ u x2]:=by rw[hk2,nY,nY,nY,nY]
   rw[hrun];simp only[ut h3'];have a0:=hat e0;have a1:=hat e1;have a2:=hat e2;have k0:=hkid e0;have k1:=hkid e1;have k2:=hkid e2
   have t0:(kids.flatMap aG).take 3=aG x0:=by rwa [Nat.zero_mul,List.drop_zero] at a0
   rw[pY,ek] at k0 k1 k2;generalize mZ u x0=r0 at k0 ⊢;generalize mZ u x1=r1 at k1 ⊢;generalize mZ u x2=r2 at k2 ⊢;obtain⟨o0,m0,s0⟩:=x0;obtain⟨o1,m1,s1⟩:=x1;obtain⟨o2,m2,s2⟩:=x2;rw[dj] at t0 a1 a2 k0 k1 k2
   have l0:0<kids.length:=by omega
   have l1:1<kids.length:=by omega
   have l2:2<kids.length:=by omega
   refine(aB h3)<|(zY)<|(zs) ?_;refine nw [0,0,0,4,12,28,62,0,0,256,768,1792,4094,0,0,16384,49152,114688,262142,1,524289,1572865,4194303,8388607] ?_;refine(uW (cJ n0 l0 t0))<|(yd (k0))<|(uW (cJ n1 l1 a1))<|(yd (k1))<|(uW (cJ n2 l2 a2))<|(yd (k2))<|(uW (cJ @dk.eq_28 @Ck @uK)) ?_;refine SD.k ii rfl rfl ii rfl rfl (yc @uK) (Ea u r0 r1 r2) (zw) rfl ?_;refine SD.e ii rfl ii rfl rfl ii zl ?_;exact(zM)<|zo [.cell 4 52]
def PK(u:iV)(hu:u.ok)(f:bu)(hf:gM f)(hr:gk f=true):PC prog 121 [pY u,.ag (aG f)] (·=oG (mZ u f)):=CM u hu _ f (cc _) hf hr
def iV.LR(u:iV):Bool:=jD u.u1 u.u2&&(jD u.u3 u.u4&&jD u.u5 u.u6)
def l8(f:bu)(u:iV):Int×Int:=if u.LR=true/\iM f=true then (dV 0 (mZ u f).1,dV 0 (mZ u f).2) else (0,0)
def Iy{a b:Int}(h:jD a b=true):a<=b:=by
 unfold jD at h;simp only[ac,bh,wn] at h;omega
def iV.QK{u:iV}(h:u.LR=true):u.ok:=by
 unfold iV.LR at h;simp only[ac] at h;exact⟨Iy h.1,Iy h.2.1,Iy h.2.2⟩
def G5(f:bu)(u:iV)(hf:gM f):PC prog 49 [.ag (aG f),.ag (ek u)] (·=oG (l8 f u)):=by
 have hv:=ra f hf;have hr:=λh1 h2=>PK u h1 f hf h2
 have hd:l8 f u=if u.LR=true/\Proofs.iM f=true then (dV 0 (mZ u f).1,dV 0 (mZ u f).2) else (0,0):=rfl
 have hvr:Proofs.iM f=true->gk f=true:=λh=>by unfold Proofs.iM at h;simp only[ac] at h;exact h.2
 generalize Proofs.iM f=V at hv hd hvr;generalize gk f=R at hr hvr;generalize mZ u f=r at hr hd;obtain⟨op,n,kids⟩:=f;rw[dj] at hv hr ⊢;obtain⟨ivs,hivs⟩:∃l:List (Int×Int),l=[(u.u1,u.u2),(u.u3,u.u4),(u.u5,u.u6)]:=⟨_,rfl⟩
 have hgood:u.LR=ivs.all λp=>jD p.1 p.2:=by rw[hivs];simp[iV.LR]
 have hkc:∀(o:Nat) (l:List (Int×Int)),(l.flatMap cQ).map (aP o)=l.flatMap cQ:=λo l=>bp mB o l;have hcl:=aU rz ivs
 have hlen:ivs.length<=1000:=by rw[hivs];simp
 refine pB 53 Tryz.func49 ?_;refine(aB @ek.eq_1)<|(zV)<|(zs) ?_;refine zL ivs (λk=>(ivs.take k).all (λp=>jD p.1 p.2)=true) (λk=>[(2,.ptr 0 0),(3,.ptr 1 0),(4,.ptr 2 0),(14,.buf 3 ivs.length 2 (some 3)),(15,ab ivs.length),(16,ab k)]) (λk=>[.cells [ab op,ab n,.sl kids.length 3 (kids.flatMap aG)],.cells (ek u),.cells [ab 0,ab 0],.cells (ivs.flatMap cQ)]) (cg (Lx @ek.eq_1 hivs @i7.{0} @i5.{0} @flatMap_cons.{0,0} @flatMap_nil.{0,0} @cQ.eq_1 @cons_append.{0} @nil_append.{0})) zp ?_;intro k hk hall;refine zT ivs k ?_ ?_;rintro rfl;rotate_left;intro x hx hlt;rotate_left
 ·refine(fo) ?_;rw[bb] at hall;rw[<-hgood] at hall
  refine(eQ @ek.eq_1)<|(zK hv) ?_
  cases hV:V
  ·exact(zR)<|(cK)<|zo [.cell 4 52] (hq:=by rw[hd,v6 (by rw[hV];simp)];rfl)
  refine(zR)<|(zN) ?_
  have hrr:=hr (iV.QK hall) (hvr hV);rw[pY,ek] at hrr
  exact(eQ @ek.eq_1)<|(zK hrr)<|(cM (bm @oG.eq_1 @ly.eq_1))<|(aB @fp)<|zo [.cell 4 52] (hq:=by rw[hd,ut ⟨hall,hV⟩];rfl)
 have hnext:jD x.1 x.2=true->(ivs.take (k+1)).all (λp=>jD p.1 p.2)=true:=λh=>by rw[cq hx,ck,hall];simp[h]
 have hbad:jD x.1 x.2=false->l8 (.mk op n kids) u=(0,0):=λh=>by
  rw[hd,v6];rintro⟨h2,_⟩;rw[hgood] at h2;have:=all_eq_true.1 h2 x (aS hx);rw[h] at this;cases this
 refine(fw)<|(aB (EY hlt (aL (e:=2) (enc:=cQ) gc hx) @cQ.eq_1 @ek.eq_1 hcl hkc (show k*2+2<=ivs.length*2 by omega))) ?_
 cases g1:decide (x.1<0);rotate_left
 ·exact(aB g1)<|(cK)<|zo [.cell 4 52] (hq:=by rw[hbad (by rw[jD,g1];rfl)];rfl)
 cases g2:decide (x.2<x.1);rotate_left
 ·exact(aB (bm g1 g2))<|(cK)<|zo [.cell 4 52] (hq:=by rw[hbad (by rw[jD,g1,g2];rfl)];rfl)
 cases g3:decide (1000000<x.2);rotate_left
 ·exact(aB (cJ g1 g2 g3))<|(cK)<|zo [.cell 4 52] (hq:=by rw[hbad (by rw[jD,g1,g2,g3];rfl)];rfl)
 refine(aB (cJ g1 g2 g3))<|(zN)<|(aB (zi hlt (show ivs.length<=1000000 by omega))) ?_;refine zX hlt (cg (bm hkc @ek.eq_1)) (hnext (by rw[jD,g1,g2,g3];rfl))
def rF(h:∀x,(enc x).all eP=true)(l:List α):(l.flatMap enc).all eP=true:=by
 rw[List.all_flatMap,all_eq_true];exact λx _=>h x
def dr(p:ak):cj (ae p)=true:=rfl
def gU(p:bC):cj (aI p)=true:=rfl
def Ki(l:List br):(l.flatMap au).all eP=true:=rF (λ_=>rfl) l
def Co(l:List ak):(l.flatMap ae).all eP=true:=rF (λ_=>rfl) l
def Cq(l:List bC):(l.flatMap aI).all eP=true:=rF (λ_=>rfl) l
def xm:SC prog 50 [ao 14 ([]:List ak) ae] [] [] (λr S'=>r=.e0 14/\S'=[]):=by
 refine Mv 8 func50 ?_;refine(jC) ?_;refine aN.Me ii rfl rfl ii rfl rfl (by simp only[aF]) zW ?_;intro b _;refine(zR) ?_;cases b
 ·refine(lD) ?_;refine aE.fg (Fg.e0 2 14 (.inr ⟨0,rfl⟩)) ?_;refine zA [(2,.e0 14)] [] zH<|(zE) ?_;exact zP [.tmp 2]
 ·refine(cK) ?_;refine aE.fg (Fg.e0 2 14 (.inl rfl)) ?_;refine(zE) ?_;exact zP [.tmp 2]
def qq(l:List ak)(hlen:l.length<=1000000)(hne:l≠[]):SC prog 50 [ao 14 l ae] [] [] (λr S'=>r=.buf 1 l.length 14 none/\S'=[.gone,.cells (l.flatMap ae)]):=by
 have h0:¬l.length=0:=λe=>hne (t8 e);refine Mv 8 func50 ?_;have hkc:=λo=>bp (enc:=ae) dr o l;have hon:(l.flatMap ae).all eP=true:=Co l;refine(jC) ?_;refine aN.Me ii rfl rfl ii rfl rfl (by simp only[aF]) zW ?_;intro b hb;cases b;rotate_left
 ·exact un (hb rfl) h0
 refine(zR)<|(zN) ?_
 have hp0:0<l.length:=b5 h0
 refine(aB (vc h0 hp0 hlen hon hkc @aa))<|zA [(2,.buf 1 l.length 14 none)] [.gone,.cells (l.flatMap ae)] zH<|(zE) ?_;exact zP [.tmp 2]
def xn:SC prog 199 [ao 2 ([]:List bC) aI] [] [] (λr S'=>r=.e0 2/\S'=[]):=by
 refine Mv 8 func199 ?_;refine(jC) ?_;refine aN.Me ii rfl rfl ii rfl rfl (by simp only[aF]) zW ?_;intro b _;refine(zR) ?_;cases b
 ·refine(lD) ?_;refine aE.fg (Fg.e0 2 2 (.inr ⟨0,rfl⟩)) ?_;refine zA [(2,.e0 2)] [] zH<|(zE) ?_;exact zP [.tmp 2]
 ·refine(cK) ?_;refine aE.fg (Fg.e0 2 2 (.inl rfl)) ?_;refine(zE) ?_;exact zP [.tmp 2]
def xo(l:List bC)(hlen:l.length<=1000000)(hne:l≠[]):SC prog 199 [ao 2 l aI] [] [] (λr S'=>r=.buf 1 l.length 2 none/\S'=[.gone,.cells (l.flatMap aI)]):=by
 have h0:¬l.length=0:=λe=>hne (t8 e);refine Mv 8 func199 ?_;have hkc:=λo=>bp (enc:=aI) gU o l;have hon:(l.flatMap aI).all eP=true:=Cq l;refine(jC) ?_;refine aN.Me ii rfl rfl ii rfl rfl (by simp only[aF]) zW ?_;intro b hb;cases b;rotate_left
 ·exact un (hb rfl) h0
 refine(zR)<|(zN) ?_
 have hp0:0<l.length:=b5 h0
 refine(aB (vc h0 hp0 hlen hon hkc @aa))<|zA [(2,.buf 1 l.length 2 none)] [.gone,.cells (l.flatMap aI)] zH<|(zE) ?_;exact zP [.tmp 2]
def su:SC prog 45 [ao 14 ([]:List br) au] [] [] (λr S'=>r=.e0 14/\S'=[]):=by
 refine Mv 8 func45 ?_;refine(jC) ?_;refine aN.Me ii rfl rfl ii rfl rfl (by simp only[aF]) zW ?_;intro b _;refine(zR) ?_;cases b
 ·refine(lD) ?_;refine aE.fg (Fg.e0 2 14 (.inr ⟨0,rfl⟩)) ?_;refine zA [(2,.e0 14)] [] zH<|(zE) ?_;exact zP [.tmp 2]
 ·refine(cK) ?_;refine aE.fg (Fg.e0 2 14 (.inl rfl)) ?_;refine(zE) ?_;exact zP [.tmp 2]
def sv(l:List br)(hlen:l.length<=1000000)(hne:l≠[]):SC prog 45 [ao 14 l au] [] [] (λr S'=>r=.buf 1 l.length 14 none/\S'=[.gone,.cells (l.flatMap au)]):=by
 have h0:¬l.length=0:=λe=>hne (t8 e);refine Mv 8 func45 ?_;have hkc:=λo=>bp (enc:=au) bU o l;have hon:(l.flatMap au).all eP=true:=Ki l;refine(jC) ?_;refine aN.Me ii rfl rfl ii rfl rfl (by simp only[aF]) zW ?_;intro b hb;cases b;rotate_left
 ·exact un (hb rfl) h0
 refine(zR)<|(zN) ?_
 have hp0:0<l.length:=b5 h0
 refine(aB (vc h0 hp0 hlen hon hkc @aa))<|zA [(2,.buf 1 l.length 14 none)] [.gone,.cells (l.flatMap au)] zH<|(zE) ?_;exact zP [.tmp 2]
section
variable {α:Type} {enc:α->List SV} {e:Nat}
def gX(he:∀x,(enc x).length=e):∀(l:List α) (i:Nat),(l.flatMap enc).take (i*e)=(l.take i).flatMap enc
 | [],i=>by simp
 | a::l,0=>by simp
 | a::l,i+1=>by
  rw[flatMap_cons,cl,c4,List.take_succ_cons,flatMap_cons,<-gX he l i];rw[d5,he,show e+i*e-e=i*e by omega,aj (by rw[he];omega)]
def mR(he:∀x,(enc x).length=e):∀(l:List α) (i:Nat),(l.flatMap enc).drop (i*e)=(l.drop i).flatMap enc
 | [],i=>by simp
 | a::l,0=>by simp
 | a::l,i+1=>by
  rw[flatMap_cons,cl,c4,List.drop_succ_cons,<-mR he l i];rw[List.drop_append,he,show e+i*e-e=i*e by omega,aW (by rw[he];omega),nil_append]
def rG(he:∀x,(enc x).length=e){l:List α}(y:α)(h:i<l.length):(l.flatMap enc).take (i*e)++(enc y++(l.flatMap enc).drop (i*e+e))=(l.set i y).flatMap enc:=by
 rw[gX he,show i*e+e=(i+1)*e by rw[cl],mR he,bd,ut h,bc,flatMap_cons]
end
def xb{α:Type}(lt:α->α->Bool):Nat->List α->List α
 | 0,l=>l
 | j+1,l=>match l[j+1]?,l[j]? with
  | some x,some y=>if lt x y=true then xb lt j ((l.set (j+1) y).set j x) else l
  | _,_=>l
def Dx{α:Type}(lt:α->α->Bool):Nat->Nat->List α->List α
 | 0,_,l=>l
 | n+1,i,l=>Dx lt n (i+1) (xb lt i l)
def Bb(lt:α->α->Bool)(l:List α):List α:=Dx lt (l.length-1) 1 l
def Fj{α:Type}{lt:α->α->Bool}:∀(j:Nat) (l:List α),(xb lt j l).length=l.length
 | 0,l=>rfl
 | j+1,l=>by
  unfold xb;split
  ·split
   ·rw[Fj j,ba,ba]
   ·rfl
  ·rfl
def FW{α:Type}{lt:α->α->Bool}:∀(n i:Nat) (l:List α),(Dx lt n i l).length=l.length
 | 0,_,_=>rfl
 | n+1,i,l=>by rw[Dx,FW n,Fj]
def yU(lt:α->α->Bool)(l:List α):(Bb lt l).length=l.length:=FW _ _ _
def swap_perm{j:Nat}{x y:α}(hx:l[j+1]?=some x)(hy:l[j]?=some y):((l.set (j+1) y).set j x).Perm l:=by
 have h1:j+1<l.length:=bo hx
 have h0:j<l.length:=by omega
 have e:l=l.take j++(y::x::l.drop (j+2)):=by
  have a1:l.drop j=y::l.drop (j+1):=eZ hy;have a2:l.drop (j+1)=x::l.drop (j+2):=eZ hx;rw[<-a2,<-a1,List.take_append_drop]
 have hlt:(l.take j).length=j:=by rw[ad];omega
 have e2:(l.set (j+1) y).set j x=l.take j++(x::y::l.drop (j+2)):=by
  apply dE;intro i;rw[d0,List.getElem?_append,hlt];by_cases c1:j=i
  ·subst c1;rw[ut rfl,ba,ut h0,v6 (el _),d3];rfl
  ·rw[v6 c1,d0];by_cases c2:j+1=i
   ·subst c2;rw[ut rfl,ut h1,v6 i4,show j+1-j=1 by omega];rfl
   ·rw[v6 c2];by_cases c3:i<j
    ·rw[ut c3,dt,ut c3]
    ·rw[v6 c3,show i-j=(i-(j+2))+2 by omega,bi,bi,cn,show j+2+(i-(j+2))=i by omega]
 rw[e2]
 conv=>rhs;rw[e]
 exact Perm.append_left _ (Perm.swap _ _ _)
def BO{α:Type}{lt:α->α->Bool}:∀(j:Nat) (l:List α),(xb lt j l).Perm l
 | 0,l=>Perm.refl _
 | j+1,l=>by
  unfold xb;split
  ·rename_i x y hx hy;split
   ·exact(BO j _).trans (swap_perm hx hy)
   ·exact Perm.refl _
  ·exact Perm.refl _
def B6{α:Type}{lt:α->α->Bool}:∀(n i:Nat) (l:List α),(Dx lt n i l).Perm l
 | 0,_,_=>Perm.refl _
 | n+1,i,l=>by rw[Dx];exact(B6 n (i+1) _).trans (BO i l)
def vq(lt:α->α->Bool)(l:List α):(Bb lt l).Perm l:=B6 _ _ _
def sb(cmp:br->br->Int)(x y:br):Bool:=decide (cmp x y<0)
def Jr(g:FuncId)(cmp:br->br->Int)(hg:∀x y,PC prog g [.ag (au x),.ag (au y)] (·=ab (cmp x y)))(c:Option Nat)(l:List br)(hlen:l.length<=100000):
 SC prog 305 [.buf 0 l.length 14 c,ab 0,ab l.length,.fn g [] []] [.cells (l.flatMap au)] [] (λr S'=>r=.cx []/\S'=[.cells ((Bb (sb cmp) l).flatMap au)]):=by
 refine Pu 53 Tryz.func305 ?_;refine(zV) ?_
 (repeat refine aE.seq ?_)
 refine aE.block (aE.loop (λm st=>∃(i:Nat) (q:List br),(q.length=l.length/\(i+1<=l.length\/i=0))/\Bb (sb cmp) l=Dx (sb cmp) (l.length-(i+1)) (i+1) q/\l.length-i=m/\st=⟨[(0,.buf 0 l.length 14 c),(1,ab 0),(2,ab l.length),(3,.fn g [] []),(8,qT (i+1)),(1000000,.ptr 0 0)],53,[.cells (q.flatMap au)],[]⟩) l.length zH ⟨0,l,⟨rfl,.inr rfl⟩,rfl,cd _,rfl⟩ (by rintro m st ⟨i,q,_,_,_,rfl⟩;rfl) ?_);rintro m st ⟨i,q,⟨hql,hi⟩,hres,rfl,rfl⟩;refine(zV) ?_;by_cases hlt:i+1<l.length;rotate_left
 ·rw[show decide (((i+1:Nat):Int)<(l.length:Int))=false by simp only[wn];omega]
  refine(zN)<|zA [(1000000,.ptr 0 0)] [.cells (q.flatMap au)] zH ?_;refine aE.exit ?_
  simp only[ea,cz,bI,bx,if_true];rw[show l.length-(i+1)=0 by omega,Dx] at hres;exact zP [] (hq:=by (try simp only[eC,bK]);first | done | (rw[hres];first | exact⟨rfl,rfl⟩ | exact⟨trivial,rfl⟩ | exact⟨rfl,trivial⟩ | exact⟨trivial,trivial⟩))
 rw[show decide (((i+1:Nat):Int)<(l.length:Int))=true by simp only[wp];omega]
 refine(fw)<|(zV) ?_
 obtain⟨s,hs⟩:∃s,l.length-(i+1)=s+1:=⟨l.length-(i+1)-1,by omega⟩;rw[hs,Dx] at hres
 (repeat refine aE.seq ?_)
 refine aE.block (aE.loop (λm st=>∃(j:Nat) (p:List br),(p.length=l.length/\j<=i+1)/\xb (sb cmp) (i+1) q=xb (sb cmp) j p/\j=m/\st=⟨[(0,.buf 0 l.length 14 c),(1,ab 0),(2,ab l.length),(3,.fn g [] []),(8,qT (i+1)),(9,qT j),(1000000,.ptr 0 0)],53,[.cells (p.flatMap au)],[]⟩) (i+1) zH ⟨i+1,q,⟨hql,aa _⟩,rfl,rfl,rfl⟩ (by rintro m st ⟨j,p,_,_,_,rfl⟩;rfl) ?_);rintro m st ⟨j,p,⟨hpl,hj⟩,hb,rfl,rfl⟩;have hil:i+1<l.length:=hlt
 have hcl:(p.flatMap au).length=l.length*14:=by rw[aU cL,hpl]
 cases j with
 | zero=>
  refine(zs) ?_;refine nw [0,0,3,7,15,15,15,111,239,15,15,1039,3599,7695,16383,32767,65535] ?_;refine(uW (show decide ((0:Int)<((0:Nat):Int))=false from rfl))<|(zM)<|(fo)<|(aB (BM (show -9223372036854775808<=((i+1:Nat):Int)+1/\((i+1:Nat):Int)+1<=9223372036854775807 from⟨by omega,by omega⟩))) ?_;exact⟨l.length-(i+1),_,by omega,zH,i+1,p,⟨hpl,.inl i4⟩,by rw[hres,hb,xb,show l.length-(i+1+1)=s by omega],rfl,rfl⟩
 | succ j=>
  have hj1:j+1<l.length:=by omega
  have hj0:j<l.length:=by omega
  obtain⟨x,hx⟩:∃x,p[j+1]?=some x:=⟨p[j+1],jp i4⟩;obtain⟨y,hy⟩:∃y,p[j]?=some y:=⟨p[j],jp i4⟩;have ax:((p.flatMap au).drop ((j+1)*14)).take 14=au x:=aL (e:=14) (enc:=au) cL hx;have ay:((p.flatMap au).drop (j*14)).take 14=au y:=aL (e:=14) (enc:=au) cL hy
  have hbs:xb (sb cmp) (j+1) p=if sb cmp x y=true then xb (sb cmp) j ((p.set (j+1) y).set j x) else p:=by rw[xb,hx,hy]
  have s1:=rG (enc:=au) cL (l:=p) (i:=j+1) y i4;have s2:=rG (enc:=au) cL (l:=p.set (j+1) y) (i:=j) x (by rw[ba];omega)
  have hcl2:((p.set (j+1) y).flatMap au).length=l.length*14:=by rw[aU cL,ba,hpl]
  rw[dq y] at s1 ay;rw[dq x] at s2 ax;simp only[cons_append,nil_append] at s1 s2;have hgx:=hg x y;rw[dq y,dq x] at hgx
  refine(zs) ?_;refine nw [0,0,3,7,15,15,15,111,239,15,15,1039,3599,7695,16383,32767,65535] ?_;refine(uW (NI (show decide ((0:Int)<((j+1:Nat):Int))=true from by simp only[wp];omega) hj1 hj0 (RW (show -9223372036854775808<=((j+1:Nat):Int)-1/\((j+1:Nat):Int)-1<=9223372036854775807 from⟨by omega,by omega⟩)) (show((j+1:Nat):Int)-1=(j:Int) from by omega) hcl (show(j+1)*14+14<=l.length*14 by omega) (show j*14+14<=l.length*14 by omega) ax ay))<|(yd (hgx)) ?_
  cases hc:decide (cmp x y<0)
  ·rw[sb,hc,v6 g9] at hbs
   refine(uW hc)<|(zM)<|(fo)<|(aB (BM (show -9223372036854775808<=((i+1:Nat):Int)+1/\((i+1:Nat):Int)+1<=9223372036854775807 from⟨by omega,by omega⟩))) ?_;exact⟨l.length-(i+1),_,by omega,zH,i+1,p,⟨hpl,.inl i4⟩,by rw[hres,hb,hbs,show l.length-(i+1+1)=s by omega],rfl,rfl⟩
  ·rw[sb,hc,ut rfl] at hbs
   refine(uW hc)<|(zM)<|(fw)<|(zs) ?_;refine nw [0,0,0,0,8,0,0,64,224,480,0,0,3072,7168,16355,32739,65535,131071] ?_;refine(uW (Lx hj1 hj0 (RW (show -9223372036854775808<=((j+1:Nat):Int)-1/\((j+1:Nat):Int)-1<=9223372036854775807 from⟨by omega,by omega⟩)) (show((j+1:Nat):Int)-1=(j:Int) from by omega) hcl (show(j+1)*14+14<=l.length*14 by omega) (show j*14+14<=l.length*14 by omega) ax ay)) ?_;refine SD.e ii rfl ii rfl rfl ii (pz (cJ hcl (show(j+1)*14+14<=l.length*14 by omega) s1)) ?_;refine(uW (fk hj1 hj0 (RW (show -9223372036854775808<=((j+1:Nat):Int)-1/\((j+1:Nat):Int)-1<=9223372036854775807 from⟨by omega,by omega⟩)) (show((j+1:Nat):Int)-1=(j:Int) from by omega))) ?_;refine SD.e ii rfl ii rfl rfl ii (pz (cJ hcl2 (show j*14+14<=l.length*14 by omega) s2)) ?_;refine(zM)<|(aB (bm (RW (show -9223372036854775808<=((j+1:Nat):Int)-1/\((j+1:Nat):Int)-1<=9223372036854775807 from⟨by omega,by omega⟩)) (show((j+1:Nat):Int)-1=(j:Int) from by omega))) ?_;exact⟨j,_,by omega,zH,j,(p.set (j+1) y).set j x,⟨by rw[ba,ba,hpl],by omega⟩,by rw[hb,hbs],rfl,rfl⟩
def Hz(g:FuncId)(cmp:br->br->Int)(hg:∀x y,PC prog g [.ag (au x),.ag (au y)] (·=ab (cmp x y)))(c:Option Nat)(l:List br)(hlen:l.length<20):
 SC prog 257 [.buf 0 l.length 14 c,ab l.length,.fn g [] []] [.cells (l.flatMap au)] [] (λr S'=>r=.cx []/\S'=[.cells ((Bb (sb cmp) l).flatMap au)]):=by
 have hins:=Jr g cmp hg c l i4;have hrc:∀(g:Nat->Nat) (l:List br),mG g (l.flatMap au)=l.flatMap au:=λg l=>bl (aC bU l);have hbc:∀(B:Nat) (l:List br),iy B (l.flatMap au)=true:=λB l=>bM (aC bU l);have hkc:∀(o:Nat) (l:List br),(l.flatMap au).map (aP o)=l.flatMap au:=λo l=>bp bU o l
 have h1:decide ((20:Int)<=(l.length:Int))=false:=by simp only[wn];omega
 have h2:decide ((20:Int)<(l.length:Int))=false:=by simp only[wn];omega
 refine Pu 63 Tryz.func257 ?_;refine(nD) ?_
 (repeat refine aE.seq ?_)
 refine aE.block (aE.loop (λm st=>m=0/\st=⟨[(0,.buf 0 l.length 14 c),(1,ab l.length),(2,.fn g [] []),(6,ab 20),(7,ab 0),(8,ab 20),(1000000,.ptr 0 0)],63,[.cells (l.flatMap au)],[]⟩) 0 zH ⟨rfl,rfl⟩ (by rintro m st ⟨_,rfl⟩;rfl) ?_);rintro m st ⟨rfl,rfl⟩
 refine(aB h1)<|(fo) ?_
 (try change aE _ _ _ _ _)
 refine(zC) ?_;refine zS [0] (cJ hrc hbc hkc) hins ?_;refine(zR) ?_
 (repeat refine aE.seq ?_)
 refine aE.block (aE.loop (λm st=>m=0/\st=⟨[(1,ab l.length),(6,ab 20),(1000000,.ptr 0 0)],63,[.cells ((Bb (sb cmp) l).flatMap au)],[]⟩) 0 zH ⟨rfl,rfl⟩ (by rintro m st ⟨_,rfl⟩;rfl) ?_);rintro m st ⟨rfl,rfl⟩
 refine(aB h2)<|(fo) ?_
 simp only[ea,cz,bI,bx,if_true];exact zP []
def BE(g:FuncId)(cmp:br->br->Int)(hg:∀x y,PC prog g [.ag (au x),.ag (au y)] (·=ab (cmp x y)))(c:Option Nat)(l:List br)(hlen:l.length<20):
 SC prog 185 [.buf 0 l.length 14 c,.fn g [] []] [.cells (l.flatMap au)] [] (λr S'=>r=.cx []/\S'=[.cells ((Bb (sb cmp) l).flatMap au)]):=by
 have hins:=Hz g cmp hg c l hlen;have hrc:∀(g:Nat->Nat) (l:List br),mG g (l.flatMap au)=l.flatMap au:=λg l=>bl (aC bU l);have hbc:∀(B:Nat) (l:List br),iy B (l.flatMap au)=true:=λB l=>bM (aC bU l);have hkc:∀(o:Nat) (l:List br),(l.flatMap au).map (aP o)=l.flatMap au:=λo l=>bp bU o l;refine Pu 9 Tryz.func185 ?_;refine(zC) ?_;refine zS [0] (cJ hrc hbc hkc) hins ?_;refine(zR) ?_;exact zP []
def CI(a:Int):PC prog 158 [ab a] (·=an false):=by
 refine pB 6 Tryz.func158 ?_;exact(zV)<|(aB (show decide (a=a)=true from wl rfl))<|zo [.tmp 2]
def CJ(a:List Nat):PC prog 159 [ah a] (·=an false):=by
 refine pB 6 func159 ?_;exact(zV)<|(aB (show decide (a=a)=true from wl rfl))<|zo [.tmp 2]
def NN(a b:Int):Int:=if a<b then -1 else if b<a then 1 else 0
def Bo(a b:Int):PC prog 78 [ab a,ab b] (·=ab (NN a b)):=by
 refine pB 20 Tryz.func78 ?_;refine(jC)<|(zK (CI a))<|(zR)<|(zC)<|(zK (CI b))<|(zR)<|(CP)<|(CP) ?_
 cases h1:decide (a<b);rotate_left
 ·exact(aB h1)<|(cK)<|zo [.tmp 4] (hq:=by rw[NN,ut (ww h1)])
 refine(aB h1)<|(zN) ?_
 cases h2:decide (b<a);rotate_left
 ·exact(aB h2)<|(cK)<|zo [.tmp 4] (hq:=by rw[NN,v6 (wt h1),ut (ww h2)])
 exact(aB h2)<|(lD)<|zo [.tmp 4] (hq:=by rw[NN,v6 (wt h1),v6 (wt h2)])
def xd(a b:List Nat):Int:=if fF a b=true then -1 else if a=b then 0 else 1
def sz(a b:List Nat):PC prog 79 [ah a,ah b] (·=ab (xd a b)):=by
 refine pB 20 Tryz.func79 ?_;refine(jC)<|(zK (CJ a))<|(zR)<|(zC)<|(zK (CJ b))<|(zR)<|(CP)<|(CP) ?_
 cases h1:fF a b;rotate_left
 ·exact(aB h1)<|(cK)<|zo [.tmp 4] (hq:=by rw[xd,ut h1])
 refine(aB h1)<|(zN) ?_
 by_cases h2:a=b
 ·exact(aB (bm h1 (show ve a b=true by rw[lH];exact wl h2)))<|(lD)<|zo [.tmp 4] (hq:=by rw[xd,v6 (by rw[h1];decide),ut h2])
 ·exact(aB (bm h1 (show ve a b=false by rw[lH];exact wd h2)))<|(cK)<|zo [.tmp 4] (hq:=by rw[xd,v6 (by rw[h1];decide),v6 h2])
def yw(a b:br):Int:=NN a.day b.day
def JM(a b:br):PC prog 106 [.ag (au a),.ag (au b)] (·=ab (yw a b)):=by
 refine pB 10 Tryz.func106 ?_;exact(aB @au.eq_1)<|(zC)<|(zK (Bo a.day b.day))<|(zR)<|zo [.tmp 4]
def br.vV:List AV:=[.int .i64 0,.int .i64 0,.str [],.str [],.str [],.str [],.str [],.str [],.int .i64 0,.int .i64 0,.int .i64 0,.int .i64 0,.int .i64 0,.int .i64 0]
def MN(n:Nat)(h:n<=1000000):kK prog 37 (.int .i64 (n:Int)) (.int .i64 (n:Int))=some (n,14,n,rep br.vV n):=by
 have q1:(prog.info? 90).map (λi=>(i.size,ble i.bytes 10000))=some (14,true):=by kernel_rfl
 obtain⟨i,hi,e⟩:=Option.map_eq_some_iff.1 q1;have e1:i.size=14:=rc Prod.fst e;have e2:ble i.bytes 10000=true:=rc Prod.snd e;unfold kK;rw[show prog.underlying 37=some (.slice 90) by kernel_rfl];simp only;rw[show df (.int .i64 (n:Int))=some n from rfl,m7,m7,hi,m7,show di prog 90=some (.agg br.vV) by simp only[aF];rfl,m7,e1,e2,fc (aa n),fc h];rfl
def sR:∀n,(rep br.vV n).map SV.a=(be n br.zero).flatMap au
 | 0=>rfl
 | n+1=>by rw[rep,b7,sR n,List.replicate_succ,flatMap_cons];rfl
def eL(l:List br):List br:=Bb (sb yw) l
def BC(l:List br)(hlen:l.length<20):PC prog 105 [ao 14 l au,.fn 106 [] []] (·=ao 14 (eL l) au):=by
 have hst:=BE 106 yw JM (some l.length) l hlen;have hrc:∀(g:Nat->Nat) (l:List br),mG g (l.flatMap au)=l.flatMap au:=λg l=>bl (aC bU l);have hbc:∀(B:Nat) (l:List br),iy B (l.flatMap au)=true:=λB l=>bM (aC bU l);have hkc:∀(o:Nat) (l:List br),(l.flatMap au).map (aP o)=l.flatMap au:=λo l=>bp bU o l;refine pB 16 Tryz.func105 ?_;have hcl:=aU cL l
 have hzl:((be l.length br.zero).flatMap au).length=l.length*14:=by rw[aU cL,bw]
 refine(zV)<|(aB (cJ (MN l.length i4) @sR hkc)) ?_
 (repeat refine aE.seq ?_)
 refine aE.mono (Q:=λe st=>e=.normal/\Fg st ⟨[(1,.fn 106 [] []),(5,.buf 0 l.length 14 (some l.length))],16,[.cells (l.flatMap au)],[]⟩) ?_ ?_
 ·by_cases h0:l.length=0
  ·have hl:l=[]:=t8 h0;subst hl;refine(zV) ?_;exact⟨rfl,zH⟩
  ·have htk:(l.flatMap au).take (l.length*14)=l.flatMap au:=dU cL l;have hmin:Nat.min l.length l.length=l.length:=em _;have hdr:((be l.length br.zero).flatMap au).drop (l.length*14)=[]:=aW (by rw[hzl];exact aa _);refine(aB (NI h0 hmin htk hzl hcl @aa @Ki hdr @es @append_nil.{0})) ?_;exact⟨rfl,zH⟩
 rintro e st ⟨rfl,hfg⟩;refine aE.fg hfg ?_;clear hfg
 (try change aE _ _ _ _ _)
 have hsl:(eL l).length=l.length:=by unfold eL;exact yU _ _
 refine(zC) ?_;refine zS [0] (cJ hrc hbc hkc) hst ?_;exact(zR)<|(zV)<|zo [.tmp 4] (r:=.sl l.length 14 ((eL l).flatMap au)) (hw:=.buf rfl (by rw[<-hsl];rw[show Bb (sb yw) l=eL l from rfl,dU cL];exact cA.refl (aC bU _)) (by rw[show Bb (sb yw) l=eL l from rfl,aU cL,hsl];exact aa _)) (hq:=by rw[ao,hsl])
def wR(l:List br)(hlen:l.length<20):PC prog 47 [ao 14 l au] (·=ao 14 (eL l) au):=by
 refine pB 5 Tryz.func47 ?_;exact(jC)<|(zK (BC l hlen) (hfl:=.inr zr))<|(zR)<|zo [.tmp 2] (r:=ao 14 (eL l) au) (hw:=Wk.refl rfl)
variable{fid:FuncId}{first:List SV}{cap:List SV}
open Go.Proofs.Tryz renaming func104 -> vaa in
open Go.Ev renaming vF -> vab in
open Go.Proofs renaming au -> vac in
def AK{l:List (br)}(p:br->Bool)(hlen:l.length<=1000000)(hp:∀x∈l,PC prog fid ((first++[.ag (au x)])++cap) (·=an (p x)))(hg:cj first=true/\cj cap=true):PC prog 104 [ao 14 l au,.fn fid first cap] (·=ab (gf p l)):=by
 have vad:=@au.eq_1;exact Kk
def wZ:∀n,(rep br.vV n).all ki=true
 | 0=>rfl
 | n+1=>by rw[rep,ck,wZ n];rfl
def B1{p:α->Bool}(h:gf p l ≠ -1):∃(k:Nat) (x:α),gf p l=(k:Int)/\l[k]?=some x/\p x=true/\∀(i:Nat) y,i<k->l[i]?=some y->p y=false:=by
 unfold gf at h ⊢
 cases hf:l.findIdx? p with
 | none=>rw[hf] at h;exact un rfl h
 | some k=>
  rw[List.findIdx?_eq_some_iff_getElem] at hf;obtain⟨hlt,h1,h2⟩:=hf;refine⟨k,l[k],rfl,jp hlt,h1,λi y hi hy=>?_⟩;have:=h2 i hi;rw[jp i4] at hy;cases hy;simpa using this
def B2{p:α->Bool}(h:gf p l = -1):∀x∈l,p x=false:=by
 unfold gf at h
 cases hf:l.findIdx? p with
 | none=>
  rw[List.findIdx?_eq_none_iff] at hf;exact hf
 | some k=>rw[hf] at h;simp only at h;omega
def dY(d:br->Bool)(l:List br):List br:=l.filter λx=>!d x
def FZ(d:br->Bool)(l:List br):(dY d l).length<=l.length:=List.length_filter_le _ _
def FY{d:br->Bool}{l:List br}(h:∀x∈l,d x=false):dY d l=l:=by
 unfold dY;rw[List.filter_eq_self];intro x hx;rw[h x hx];rfl
def Ca{d:br->Bool}{l:List br}{j:Nat}{x:br}(h:l[j]?=some x):dY d (l.take (j+1))=dY d (l.take j)++(if d x=true then [] else [x]):=by
 unfold dY;rw[cq h,List.filter_append];cases hd:d x<;>simp[hd]
def AB(g:FuncId)(c2:List SV)(hg:cj c2=true)(d:br->Bool)(hp:∀x,PC prog g [.ag (au x),.ip c2] (·=an (d x))):
 SC prog 44 [.e0 14,.fn g [] [.ptr 0 0]] [.cells c2] [] (λr S'=>r=.e0 14/\S'=[.cells c2]):=by
 have hidx:=AK (l:=[]) d (fid:=g) (first:=[]) (cap:=[.ip c2]) ge (λx hx=>hp x) ⟨rfl,rfl⟩;rw[show gf d [] = -1 from rfl] at hidx
 refine Pu 42 func44 ?_;refine(jC)<|(zK hidx (hwk:=.cons (.T5 14) (.cons (.fn .nil (.cons (.ptr rfl (cA.refl hg) (bt _)) .nil)) .nil)))<|(zR)<|(xw)<|(zV)<|(zE) ?_;exact Lh.of (rs:=[.tmp 4]) rfl rfl zl Wv zd zg
def AD(g:FuncId)(c2:List SV)(hg:cj c2=true)(d:br->Bool)(hp:∀x,PC prog g [.ag (au x),.ip c2] (·=an (d x)))(l:List br)(hlen:l.length<=100000):
 SC prog 44 [.buf 0 l.length 14 none,.fn g [] [.ptr 1 0]] [.cells (l.flatMap au),.cells c2] [] (λr S'=>r=.buf 0 (dY d l).length 14 none/\S'=[.cells ((dY d l++be (l.length-(dY d l).length) br.zero).flatMap au),.cells c2]):=by
 have hidx:=AK (l:=l) d (fid:=g) (first:=[]) (cap:=[.ip c2]) i4 (λx hx=>hp x) ⟨rfl,rfl⟩;have hkc:∀(o:Nat) (l:List br),(l.flatMap au).map (aP o)=l.flatMap au:=λo l=>bp bU o l;have hk2:∀o:Nat,c2.map (aP o)=c2:=λo=>bV hg
 refine Ss 42 func44 ?_;refine(jC)<|(zK hidx (hwk:=.cons (.buf rfl (by rw[dU cL];exact cA.refl (aC bU l)) (by rw[aU cL];exact aa _)) (.cons (.fn .nil (.cons (.ptr rfl (cA.refl hg) (bt _)) .nil)) .nil)))<|(zR) ?_
 by_cases hno:gf d l = -1
 ·have hall:=B2 hno;rw[hno]
  refine(xw)<|(zV)<|(zE) ?_;exact zP [.tmp 4] (hq:=by (try simp only[eC,bK]);first | done | (rw[FY hall,d3,List.replicate_zero,append_nil];first | exact⟨rfl,rfl⟩ | exact⟨trivial,rfl⟩ | exact⟨rfl,trivial⟩ | exact⟨trivial,trivial⟩))
 obtain⟨k,x0,hk,hx0,hd0,hbef⟩:=B1 hno;rw[hk];have hkl:k<l.length:=bo hx0
 refine(aB (show decide ((k:Int) = -1)=false by simp only[wn];omega))<|(zN)<|(zs) ?_;refine aE.r0 ii (pz (bA (k:Int) 1 i4)) ?_
 have hst:dY d (l.take (k+1))=l.take k:=by
  rw[Ca hx0,ut hd0,append_nil];refine FY λx hx=>?_;obtain⟨i,hi⟩:=List.mem_iff_getElem?.1 hx
  have hik:i<k:=by
   have:=bo hi;rw[ad] at this;omega
  rw[dt,ut hik] at hi;exact hbef i x hik hi
 (repeat refine aE.seq ?_)
 refine aE.block (aE.loop (λm st=>∃(j i:Nat) (q:List br),(i<j/\j<=l.length/\q.length=l.length)/\(q.take i=dY d (l.take j)/\q.drop j=l.drop j)/\l.length-j=m/\st=⟨[(0,.buf 0 l.length 14 none),(1,.fn g [] [.ptr 1 0]),(5,qT i),(6,qT j),(1000000,.ptr 0 0),(1000001,.ptr 1 0)],42,[.cells (q.flatMap au),.cells c2],[]⟩) (l.length-(k+1)) (cg @fU) ⟨k+1,k,l,⟨cc _,hkl,rfl⟩,⟨hst.symm,rfl⟩,rfl,rfl⟩ (by rintro m st ⟨j,i,q,_,_,_,rfl⟩;rfl) ?_);rintro m st ⟨j,i,q,⟨hij,hjl,hql⟩,⟨htk,hdr⟩,rfl,rfl⟩
 have hcl:(q.flatMap au).length=l.length*14:=by rw[aU cL,hql]
 refine(zV) ?_;by_cases hlt:j<l.length;rotate_left
 ·rw[show decide ((j:Int)<(l.length:Int))=false by simp only[wn];omega]
  obtain rfl:j=l.length:=by omega
  rw[bb] at htk;refine(fo) ?_
  have hkl2:(dY d l).length=i:=by rw[<-htk,ad];omega
  have hrest:(q.flatMap au).take (i*14)++((rep br.vV (l.length-i)).map SV.a++(q.flatMap au).drop (i*14+(l.length-i)*14))=(dY d l++be (l.length-(dY d l).length) br.zero).flatMap au:=by
   rw[hkl2,sR,gX cL,htk,aW (by rw[hcl];omega),append_nil,bc]
  refine(zs) ?_;refine aE.r0 ii (by simp only[cY,bP,ao,aF,m7,m6,↓reduceIte,a8,Nat.reduceAdd,Nat.reduceMul,Nat.reduceLeDiff,Nat.reduceLT,aq,aA,bD,Ln (show i<=l.length by omega),show ¬(l.length-i=0) by omega,show i*14+(l.length-i)*14<=l.length*14 by omega,hcl,show(rep [AV.int IntKind.i64 0,.int .i64 0,.str [],.str [],.str [],.str [],.str [],.str [],.int .i64 0,.int .i64 0,.int .i64 0,.int .i64 0,.int .i64 0,.int .i64 0] (l.length-i))=rep br.vV (l.length-i) from rfl,wZ,hrest];first | done | rfl) ?_;refine(zs) ?_;refine aE.r0 ii (pz (bm (SM (show i<=l.length by omega)) @cd)) ?_;refine(zE) ?_;exact Lh.of (rs:=[.tmp 4]) rfl rfl zl (by (try simp only[eC,bK]);first | done | (rw[hkl2];first | exact⟨rfl,rfl⟩ | exact⟨trivial,rfl⟩ | exact⟨rfl,trivial⟩ | exact⟨trivial,trivial⟩)) zd zg
 rw[show decide ((j:Int)<(l.length:Int))=true by simp only[wp];omega];obtain⟨x,hx⟩:∃x,l[j]?=some x:=⟨l[j],jp hlt⟩
 have hqx:q[j]?=some x:=by
  have:(q.drop j)[0]?=(l.drop j)[0]?:=by rw[hdr]
  rw[cn,cn,c5] at this;rw[this,hx]
 have hdr2:q.drop (j+1)=l.drop (j+1):=by
  have:=rc (List.drop 1) hdr;rw[ej,ej] at this;exact this
 have hsn:=Ca (d:=d) hx;have ax:((q.flatMap au).drop (j*14)).take 14=au x:=aL (e:=14) (enc:=au) gc hqx;rw[dq] at ax;have hpx:=hp x;rw[dq] at hpx
 refine(fw)<|(aB (vc hlt hcl (show j*14+14<=l.length*14 by omega) ax hkc hk2))<|(zC)<|(zK hpx (hwk:=.cons (.ag zr) (.cons (.ptr rfl (cA.refl hg) (bt _)) .nil))) ?_
 cases hd:d x
 ·have hil:i<q.length:=by omega
  have s1:=rG (enc:=au) cL (l:=q) (i:=i) x hil;rw[dq] at s1;simp only[cons_append,nil_append] at s1;rw[hd,v6 g9] at hsn
  refine(zR)<|(zY)<|(aB (fk (show i<l.length by omega) hcl (show i*14+14<=l.length*14 by omega) s1))<|(zs) ?_;refine aE.r0 ii (pz (bA (i:Int) 1 i4)) ?_;refine(zs) ?_;refine aE.r0 ii (pz (bA (j:Int) 1 i4)) ?_;refine⟨l.length-(j+1),_,by omega,(cg @fU),j+1,i+1,q.set i x,⟨by omega,by omega,by rw[ba,hql]⟩,⟨?_,?_⟩,rfl,rfl⟩
  ·rw[hsn,<-htk,bd,ut hil,d5,ad,ap i4,ct,Nat.min_eq_right i4,show i+1-i=1 by omega];rfl
  ·rw[List.drop_set,ut i4];exact hdr2
 ·rw[hd,ut rfl,append_nil] at hsn
  refine(zR)<|(zN)<|(zs) ?_;refine aE.r0 ii (pz (bA (j:Int) 1 i4)) ?_;exact⟨l.length-(j+1),_,by omega,(cg @fU),j+1,i,q,⟨by omega,by omega,hql⟩,⟨by rw[hsn,htk],hdr2⟩,rfl,rfl⟩
def Jo{j:Nat}(h:i+j<=1000000):lf prog 3 210 (.int .i64 ((i:Int)+(j:Int)))=some (.int .u64 ((i+j:Nat):Int)):=by
 unfold lf;rw[show prog.underlying 3=some (.int .i64) by kernel_rfl,show prog.underlying 210=some (.int .u64) by kernel_rfl]
 have:dO .u64 ((i:Int)+(j:Int))=((i+j:Nat):Int):=by rw[iq];simp[IntKind.wrap,IntKind.bits,IntKind.signed];omega
 simp only[this]
def Jp{s:Nat}:c8 prog .shr 210 (.int .u64 (s:Int)) (.int .u64 1)=some (.int .u64 ((s/2:Nat):Int)):=by
 have:((s:Int)).fdiv 2=((s/2:Nat):Int):=by
  rw[Int.fdiv_eq_ediv_of_nonneg _ g9];omega
 show some (AV.int .u64 (((s:Int)).fdiv 2))=_;rw[this]
def Jq{s:Nat}(h:s<=1000000):lf prog 210 3 (.int .u64 (s:Int))=some (.int .i64 (s:Int)):=by
 unfold lf;rw[show prog.underlying 3=some (.int .i64) by kernel_rfl,show prog.underlying 210=some (.int .u64) by kernel_rfl]
 have:dO .i64 (s:Int)=(s:Int):=by rw[iq];simp[IntKind.wrap,IntKind.bits,IntKind.signed];omega
 simp only[this]
def dX(p:ak):ae p=[ah p.name,ah p.kind,ah p.aT,ah p.slot,ab p.made,ab p.since,an p.bq,ao 2 p.props aI,ab p.l1,ab p.l2,ab p.l3,ab p.l4,ab p.l5,ab p.l6]:=rfl
def pJ(p:bC):aI p=[ah p.key,ah p.value]:=rfl
def gz(l:List ak)(k:List Nat)(pos:Nat):Bool:=match l[pos]? with
 | some x=>decide (ak.name x=k)
 | none=>false
structure BG (l:List ak) (k:List Nat) (pos:Nat):Prop where
 le:pos<=l.length
 jF:∀(a:Nat) (x:ak),l[a]?=some x->(fF (ak.name x) k=true↔a<pos)
variable{p:Prop}
def R0 (h:p:=by
  obtain⟨hpos,hpt⟩:=hpart
  refine pB 49 vah ?_;refine(nD)<|(zV) ?_
  (repeat refine aE.seq ?_)
  refine aE.block (aE.loop (λm st=>∃i j:Nat,(i<=pos/\pos<=j/\j<=l.length)/\j-i=m/\st=⟨[(0,ao vai l vaj),(1,ah k),(2,.fn g [] cap),(8,qT l.length),(9,qT i),(10,qT j)],49,[],[]⟩) l.length zH ⟨0,l.length,⟨Nat.zero_le _,hpos,Nat.le_refl _⟩,Nat.sub_zero _,rfl⟩ (by rintro m st ⟨i,j,_,_,rfl⟩;rfl) ?_);rintro m st ⟨i,j,⟨hip,hpj,hjl⟩,rfl,rfl⟩;refine(zV) ?_;by_cases hij:i<j;rotate_left
  ·rw[show decide ((i:Int)<(j:Int))=false by simp only[wn];((try simp only[vai] at *)<;>omega)];refine(fo) ?_
   obtain rfl:i=pos:=by ((try simp only[vai] at *)<;>omega)
   by_cases hil:i<l.length
   ·obtain⟨x,hx⟩:∃x,l[i]?=some x:=⟨l[i],jp hil⟩
    have hl:fF (vak x) k=false:=by
     cases h:fF (vak x) k with
     | false=>rfl
     | true=>exact un ((hpt i x hx).1 h) (Nat.lt_irrefl _)
    have ax:((l.flatMap vaj).drop (i*vai)).take vai=vaj x:=aL (e:=vai) (enc:=vaj) gc hx;simp only[vai] at ax;have hpx:=hp x (List.mem_of_getElem? hx)
    have hfd:vam l k i=decide (vak x=k):=by unfold vam;rw[hx]
    have hc0:decide (xd (vak x) k=0)=decide (vak x=k):=by
     unfold xd;rw[hl,v6 g9];by_cases e:vak x=k
     ·rw[ut e,wl e];rfl
     ·rw[v6 e,wd e];rfl
    rw[van] at ax hpx
    exact(eQ (cJ (show decide ((i:Int)<(l.length:Int))=true by simp only[wp];((try simp only[vai] at *)<;>omega)) hil ax))<|(zK hpx (hwk:=cA.refl (mS rfl hcap)))<|(cM hc0)<|kn [.tmp 6,.tmp 7] (hq:=by rw[hfd])
   ·have hfd:vam l k i=false:=by unfold vam;rw[List.getElem?_eq_none (by ((try simp only[vai] at *)<;>omega))]
    exact(aB (show decide ((i:Int)<(l.length:Int))=false by simp only[wn];((try simp only[vai] at *)<;>omega)))<|kn [.tmp 6,.tmp 7] (hq:=by rw[hfd])
  rw[show decide ((i:Int)<(j:Int))=true by simp only[wp];((try simp only[vai] at *)<;>omega)];obtain⟨h,hh⟩:∃h,h=(i+j)/2:=⟨_,rfl⟩
  have hl2:h<l.length:=by ((try simp only[vai] at *)<;>omega)
  obtain⟨x,hx⟩:∃x,l[h]?=some x:=⟨l[h],jp hl2⟩;have ax:((l.flatMap vaj).drop (h*vai)).take vai=vaj x:=aL (e:=vai) (enc:=vaj) gc hx;simp only[vai] at ax;have hpx:=hp x (List.mem_of_getElem? hx);have hpth:=hpt h x hx;rw[van] at ax hpx
  refine(fw)<|(zs) ?_;refine aE.r0 ii (pz (fk (bA (i:Int) (j:Int) (by ((try simp only[vai] at *)<;>omega))) (Jo (show i+j<=1000000 by ((try simp only[vai] at *)<;>omega))) @Jp (Jq (show(i+j)/2<=1000000 by ((try simp only[vai] at *)<;>omega))))) ?_
  rw[<-hh]
  refine(eQ (bm hl2 ax))<|(zK hpx (hwk:=cA.refl (mS rfl hcap))) ?_
  have hc:decide (xd (vak x) k<0)=fF (vak x) k:=by
   unfold xd;cases h:fF (vak x) k
   ·rw[v6 g9];split<;>rfl
   ·rw[ut rfl];rfl
  cases hlt:fF (vak x) k
  ·have hge:pos<=h:=by
    rcases Nat.lt_or_ge h pos with hq | hq
    ·have:=hpth.2 hq;rw[hlt] at this;cases this
    ·exact hq
   refine(cM (bm hc hlt))<|(lD) ?_;exact⟨h-i,_,by ((try simp only[vai] at *)<;>omega),zH,i,h,⟨hip,hge,by ((try simp only[vai] at *)<;>omega)⟩,rfl,rfl⟩
  ·have hgt:h<pos:=hpth.1 hlt
   refine(cM (bm hc hlt))<|(zY)<|(zs) ?_;refine aE.r0 ii (pz (bA (h:Int) 1 (by ((try simp only[vai] at *)<;>omega)))) ?_;exact⟨j-(h+1),_,by ((try simp only[vai] at *)<;>omega),(Fg.less (UE @fU) (UF @fU)),h+1,j,⟨by ((try simp only[vai] at *)<;>omega),hpj,hjl⟩,rfl,rfl⟩):p:=h
open Go.Proofs.Tryz renaming func193 -> vah in
open Go.Ev renaming vF -> vai in
open Go.Proofs renaming ae -> vaj,gz -> vam in
open Go.Proofs.ak renaming name -> vak in
def G2(l:List ak)(hlen:l.length<=100000){g:FuncId}{cap:List SV}(hcap:cj cap=true)(k:List Nat)(pos:Nat)(hp:∀x∈l,PC prog g ([.ag (ae x),ah k]++cap) (·=ab (xd (ak.name x) k)))(hpart:BG l k pos):
 PC prog 193 [ao 14 l ae,ah k,.fn g [] cap] (·=.cx [qT pos,an (gz l k pos)]):=by
 have van:=@dX;exact R0
def iB(l:List bC)(k:List Nat)(pos:Nat):Bool:=match l[pos]? with
 | some x=>decide (bC.key x=k)
 | none=>false
structure BH (l:List bC) (k:List Nat) (pos:Nat):Prop where
 le:pos<=l.length
 jF:∀(a:Nat) (x:bC),l[a]?=some x->(fF (bC.key x) k=true↔a<pos)
open Go.Proofs.Tryz renaming func197 -> vah in
open Go.Ev renaming KF -> vai in
open Go.Proofs renaming aI -> vaj,iB -> vam in
open Go.Proofs.bC renaming key -> vak in
def G3(l:List bC)(hlen:l.length<=100000){g:FuncId}{cap:List SV}(hcap:cj cap=true)(k:List Nat)(pos:Nat)(hp:∀x∈l,PC prog g ([.ag (aI x),ah k]++cap) (·=ab (xd (bC.key x) k)))(hpart:BH l k pos):
 PC prog 197 [ao 2 l aI,ah k,.fn g [] cap] (·=.cx [qT pos,an (iB l k pos)]):=by
 have van:=@pJ;exact R0
open Go.Ev Go.Lib
def KN(Z:List AV):∀m,(rep Z m).length=m*Z.length
 | 0=>by rw[rep,i5,bk]
 | m+1=>by rw[rep,li,KN Z m,cl,c4]
def GL{Z:List AV}(hZ:Z.all ki=true):∀m,(rep Z m).all ki=true
 | 0=>rfl
 | m+1=>by rw[rep,ck,hZ,GL hZ m];rfl
def Gi:∀{l:List AV},l.all ki=true->(l.map SV.a).all eP=true
 | [],_=>rfl
 | a::l,h=>by
  rw[dv,ac] at h;rw[bF,dv,Gi h.2,Bool.and_true];exact h.1
def Gh(o:Nat):∀l:List AV,(l.map SV.a).map (aP o)=l.map SV.a
 | []=>rfl
 | a::l=>by rw[bF,bF,Gh o l];rfl
def ED:CU prog 263:=by
 intro w a b la ca lb cb tA tB kA kB h1 h2 h3 h4 h5 h6
 rw[run_callFunc_extern Tryz.func263 zW zW zW (e:=Extern.SlicesOverlaps.overlaps #[44,44] #[4]) zW,
  Lib.run_overlaps_apart w 44 4 56 zW 14 (λw=>bR zW) a b la ca lb cb h1 tA tB kA kB h2 h3 h4 h5 h6]
 rfl
def Bq(x:ak):SC prog 195 [.e0 14,qT 0,.buf 0 1 14 (some 1)] [.cells (ae x)] [0] (λr S'=>r=ao 14 [x] ae/\S'=[.gone]):=by
 refine Pu 95 Tryz.func195 ?_;have hkc:=λo:Nat=>bV (o:=o) (dr x);have hon:(ae x).all eP=true:=rfl;rw[dX] at hkc hon ⊢
 refine(nD)<|(nD)<|(lD)<|(xw)<|(aB (bm hkc hon))<|zA [(6,.buf 1 1 14 none)] [.gone,.cells (ae x)] (cg @dX) ?_;refine zZ [(6,ao 14 [x] ae)] 1 rfl ⟨.inr (.buf rfl (by rw[flatMap_cons,flatMap_nil,append_nil];exact cA.refl (dr x)) (by show 1*14<=14;decide)),trivial⟩<|zA [(6,ao 14 [x] ae)] [.gone] zH<|(zE) ?_;exact zP [.tmp 6]
def R4 (h:p:=by
  have hf:∀l:List vao,(l.flatMap vap).length=l.length*vaq:=aU (enc:=vap) (e:=vaq) gc;simp only[vaq] at hf
  have h1:((l.flatMap vap++A).take ((i+1)*vaq)).length=(i+1)*vaq:=by
   rw[List.length_take,li,hf];((try simp only[vaq] at *)<;>omega)
  simp only[vaq] at h1
  have h2:((l.flatMap vap++A).take ((i+1)*vaq)).take (i*vaq)=(l.take i).flatMap vap:=by
   rw[List.take_take,Nat.min_eq_left (by ((try simp only[vaq] at *)<;>omega)),List.take_append_of_le_length (by rw[hf];((try simp only[vaq] at *)<;>omega)),gX (enc:=vap) (e:=vaq) gc]
  simp only[vaq] at h2;generalize hB:(l.flatMap vap++A).take ((i+1)*vaq)=B at h1 h2 ⊢;generalize (l.flatMap vap++A).drop ((i+1)*vaq+(l.length-i)*vaq)=R
  have e1:(B++((l.drop i).flatMap vap++R)).take (i*vaq)=(l.take i).flatMap vap:=by rw[List.take_append_of_le_length (by rw[h1];((try simp only[vaq] at *)<;>omega)),h2]
  simp only[vaq] at e1
  have e2:(B++((l.drop i).flatMap vap++R)).drop (i*vaq+vaq)=(l.drop i).flatMap vap++R:=by rw[List.drop_append_of_le_length (by rw[h1];((try simp only[vaq] at *)<;>omega)),List.drop_of_length_le (by rw[h1];((try simp only[vaq] at *)<;>omega)),List.nil_append]
  simp only[vaq] at e2;rw[e1,e2]
  have h3:((l.take i).flatMap vap++(vap x++(l.drop i).flatMap vap)).length=(l.length+1)*vaq:=by
   rw[li,li,hf,hf,show(vap x).length=vaq from rfl,List.length_take,List.length_drop,Nat.min_eq_left (by ((try simp only[vaq] at *)<;>omega))];((try simp only[vaq] at *)<;>omega)
  simp only[vaq] at h3
  rw[<-List.append_assoc (vap x),<-List.append_assoc,List.take_append_of_le_length (by rw[h3];exact Nat.le_refl _),List.take_of_length_le (by rw[h3];exact Nat.le_refl _),List.flatMap_append,List.flatMap_cons]):p:=h
open Go.Proofs renaming ak -> vao,ae -> vap in
open Go.Ev renaming vF -> vaq in
def Qz(l:List ak)(i:Nat)(x:ak)(hi:i<l.length)(A:List SV):
 (((l.flatMap ae++A).take ((i+1)*14)++((l.drop i).flatMap ae++(l.flatMap ae++A).drop ((i+1)*14+(l.length-i)*14))).take (i*14)++(ae x++((l.flatMap ae++A).take ((i+1)*14)++((l.drop i).flatMap ae++(l.flatMap ae++A).drop ((i+1)*14+(l.length-i)*14))).drop (i*14+14))).take ((l.length+1)*14)=(l.take i++x::l.drop i).flatMap ae:=by
 exact R4
abbrev V7:List AV:=[.str [],.str [],.str [],.str [],.int .i64 0,.int .i64 0,.bool false,.slice none 0 0 (some 0),.int .i64 0,.int .i64 0,.int .i64 0,.int .i64 0,.int .i64 0,.int .i64 0]
abbrev V8:List AV:=[.str [],.str []]
def R5 (h:p:=by
  refine Ss 95 var ?_;have hkl:=λo:Nat=>bp (enc:=vas) vat o l;have hkc:=λo:Nat=>bV (o:=o) (vat x);have hon:(vas x).all eP=true:=rfl;have hxl:(vas x).length=vau:=rfl;simp only[vau] at hxl;have hxt:(vas x).take vau=vas x:=rfl;simp only[vau] at hxt;have hcl:(l.flatMap vas).length=l.length*vau:=aU (enc:=vas) (e:=vau) gc l;simp only[vau] at hcl;have htl:(l.flatMap vas).take (l.length*vau)=l.flatMap vas:=List.take_of_length_le (by rw[hcl];exact Nat.le_refl _);simp only[vau] at htl;have hc1:((1:Nat):Int)=1:=rfl
  refine(zV)<|(aB (Lm hi))<|(aB hc1)<|(aB hc1)<|(lD) ?_
  by_cases hin:i=l.length
  ·subst hin
   refine(aB (show decide ((l.length:Int)=(l.length:Int))=true by simp))<|(zY) ?_
   have hka:∀o:Nat,(l.flatMap vas++vas x).map (aP o)=l.flatMap vas++vas x:=λo=>by rw[List.map_append,hkl,hkc]
   refine(aB (Lx hkc hon hxl hxt hcl htl hka @Nat.le_refl (show l.length<=1000000 by ((try simp only[vau] at *)<;>omega))))<|zA [(6,.buf 0 (l.length+1) vau none)] [.cells (l.flatMap vas++vas x),.gone] zH ?_
   have hq:l.flatMap vas++vas x=(l.take l.length++x::l.drop l.length).flatMap vas:=by rw[List.take_length,List.drop_length,List.flatMap_append,List.flatMap_cons,List.flatMap_nil,List.append_nil]
   have hqn:(l.take l.length++x::l.drop l.length).length=l.length+1:=by rw[List.take_length,List.drop_length,li,i7,i5]
   rw[hq]
   refine zZ [(6,ao vau (l.take l.length++x::l.drop l.length) vas)] 0 rfl ⟨.inr (by rw[qf,hqn];exact .buf rfl (by rw[<-hqn,dU (enc:=vas) (e:=vau) gc];exact cA.refl (aC vat _)) (by rw[aU (enc:=vas) (e:=vau) gc,hqn];exact Nat.le_refl _)),trivial⟩<|(zE) ?_;exact zP [.tmp 6]
  have hlt:i<l.length:=by ((try simp only[vau] at *)<;>omega)
  refine(aB (show decide ((i:Int)=(l.length:Int))=false by simp only[wn];((try simp only[vau] at *)<;>omega)))<|(zN) ?_;refine aE.IZ 0 g9 rfl rfl ?_
  intro cap hcap;obtain⟨A,hA⟩:∃A,A=List.replicate (cap*vau-(l.flatMap vas).length) SV.any:=⟨_,rfl⟩;rw[<-hA]
  have hAl:A.length=cap*vau-l.length*vau:=by rw[hA,List.length_replicate,hcl]
  simp only[vau] at hAl;by_cases hroom:cap<l.length+1
  ·obtain rfl:cap=l.length:=by ((try simp only[vau] at *)<;>omega)
   obtain rfl:A=[]:=t8 (by rw[hAl];((try simp only[vau] at *)<;>omega));rw[List.append_nil];clear hA hAl
   refine(aB (cJ hc1 (BM (show -9223372036854775808<=(l.length:Int)+1/\(l.length:Int)+1<=9223372036854775807 from⟨by ((try simp only[vau] at *)<;>omega),by ((try simp only[vau] at *)<;>omega)⟩)) (show decide ((l.length:Int)<(l.length:Int)+1)=true by simp only[wp];((try simp only[vau] at *)<;>omega))))<|(zY) ?_
   obtain⟨m,hm⟩:∃m,m=l.length+1-i:=⟨_,rfl⟩;obtain⟨R,hR⟩:∃R,R=(rep vav m).map SV.a:=⟨_,rfl⟩
   have hRl:R.length=m*vau:=by rw[hR,List.length_map,KN];rfl
   simp only[vau] at hRl
   have hRo:R.all eP=true:=by rw[hR];exact Gi (GL rfl m)
   have hRk:∀o:Nat,R.map (aP o)=R:=λo=>by rw[hR];exact Gh o _
   obtain⟨c1,hc1e⟩:∃c1,c1=(l.flatMap vas).take (i*vau)++R:=⟨_,rfl⟩
   have hc1l:c1.length=(l.length+1)*vau:=by rw[hc1e,li,List.length_take,hcl,hRl,Nat.min_eq_left (by ((try simp only[vau] at *)<;>omega)),hm];((try simp only[vau] at *)<;>omega)
   simp only[vau] at hc1l
   have hc1k:∀o:Nat,c1.map (aP o)=c1:=λo=>by rw[hc1e,List.map_append,hRk,List.map_take,hkl]
   refine(aB (bm (Lx hc1 (SM hi) (BM (show -9223372036854775808<=(l.length:Int)+1/\(l.length:Int)+1<=9223372036854775807 from⟨by ((try simp only[vau] at *)<;>omega),by ((try simp only[vau] at *)<;>omega)⟩)) (RW (show -9223372036854775808<=(l.length:Int)+1-(i:Int)/\(l.length:Int)+1-(i:Int)<=9223372036854775807 from⟨by ((try simp only[vau] at *)<;>omega),by ((try simp only[vau] at *)<;>omega)⟩)) (show((l.length:Int)+1-(i:Int))=(m:Int) by ((try simp only[vau] at *)<;>omega)) (Eq.symm hR) hRo @Nat.sub_zero (show m<=1000000 by ((try simp only[vau] at *)<;>omega))) (NI (show ¬m=0 by ((try simp only[vau] at *)<;>omega)) (show i<=1000000 by ((try simp only[vau] at *)<;>omega)) hcl (show i*vau<=l.length*vau by ((try simp only[vau] at *)<;>omega)) (show l.length<l.length+1 by ((try simp only[vau] at *)<;>omega)) (show i+m=l.length+1 by ((try simp only[vau] at *)<;>omega)) (Eq.symm hc1e) hc1k hkl hkc))) ?_;obtain⟨c2,hc2e⟩:∃c2,c2=c1.take (i*vau)++(vas x++c1.drop (i*vau+vau)):=⟨_,rfl⟩
   have hc2l:c2.length=(l.length+1)*vau:=by rw[hc2e,li,li,List.length_take,List.length_drop,hc1l,hxl];((try simp only[vau] at *)<;>omega)
   simp only[vau] at hc2l;refine(aB (T1 (Lm (show i<=l.length+1 by ((try simp only[vau] at *)<;>omega))) hxl hxt (show Nat.min 1 (l.length+1-i)=1 by simp only[Nat.min_def];rw[ut (by ((try simp only[vau] at *)<;>omega))]) hc1l (show i*vau+vau<=(l.length+1)*vau by ((try simp only[vau] at *)<;>omega)) hon (Eq.symm hc2e))) ?_
   have hdr:((l.flatMap vas).drop (i*vau)).take ((l.length-i)*vau)=(l.drop i).flatMap vas:=by
    rw[mR (enc:=vas) (e:=vau) gc,List.take_of_length_le];rw[aU (enc:=vas) (e:=vau) gc,List.length_drop];exact Nat.le_refl _
   simp only[vau] at hdr
   have hdl:((l.drop i).flatMap vas).length=(l.length-i)*vau:=by rw[aU (enc:=vas) (e:=vau) gc,List.length_drop]
   simp only[vau] at hdl;have hdt:((l.drop i).flatMap vas).take ((l.length-i)*vau)=(l.drop i).flatMap vas:=List.take_of_length_le (by rw[hdl];exact Nat.le_refl _);simp only[vau] at hdt;have hdo:((l.drop i).flatMap vas).all eP=true:=vaw (l.drop i);obtain⟨c3,hc3e⟩:∃c3,c3=c2.take ((i+1)*vau)++((l.drop i).flatMap vas++c2.drop ((i+1)*vau+(l.length-i)*vau)):=⟨_,rfl⟩
   have hfin:c3=(l.take i++x::l.drop i).flatMap vas:=by
    have e0:c1.take (i*vau)=(l.take i).flatMap vas:=by
     rw[hc1e,List.take_append_of_le_length (by rw[List.length_take,hcl];((try simp only[vau] at *)<;>omega)),List.take_take,Nat.min_self,gX (enc:=vas) (e:=vau) gc]
    simp only[vau] at e0
    have e1:((l.take i).flatMap vas++vas x).length=(i+1)*vau:=by
     rw[li,aU (enc:=vas) (e:=vau) gc,hxl,List.length_take,Nat.min_eq_left hi];((try simp only[vau] at *)<;>omega)
    simp only[vau] at e1;rw[hc3e,show c2.drop ((i+1)*vau+(l.length-i)*vau)=[] from List.drop_of_length_le (by rw[hc2l];((try simp only[vau] at *)<;>omega)),List.append_nil,hc2e,e0,<-List.append_assoc,List.take_append_of_le_length (by rw[e1];exact Nat.le_refl _),List.take_of_length_le (by rw[e1];exact Nat.le_refl _),List.flatMap_append,List.flatMap_cons,List.append_assoc]
   refine(zs) ?_;refine nw [0,0,0,6,15,0,0,96,255] ?_
   (repeat (first | refine SD.r ii rfl ii ii (pz (fk (bA (i:Int) 1 (by ((try simp only[vau] at *)<;>omega))) (DI) (Lm (show i+1<=l.length+1 by ((try simp only[vau] at *)<;>omega))) (Lm hi))) ?_ | refine SD.s ii rfl ii ii ?_ | fail))
   refine SD.ed ii rfl ii rfl rfl ii (pz (bm (Lx hcl hc2l (show i*vau+(l.length-i)*vau<=l.length*vau by ((try simp only[vau] at *)<;>omega)) (show Nat.min (l.length-i) (l.length+1-(i+1))=l.length-i by simp only[Nat.min_def];split<;>((try simp only[vau] at *)<;>omega)) (show ¬(l.length-i=0) by ((try simp only[vau] at *)<;>omega)) (show(i+1)*vau+(l.length-i)*vau<=(l.length+1)*vau by ((try simp only[vau] at *)<;>omega)) hdr hdl hdt) (cJ hdo @Nat.le_refl (Eq.symm hc3e)))) ?_;refine(zM)<|(zV) ?_
   have hqn:(l.take i++x::l.drop i).length=l.length+1:=by rw[li,i7,List.length_take,List.length_drop,Nat.min_eq_left hi];((try simp only[vau] at *)<;>omega)
   rw[hfin]
   refine zA [(6,.buf 2 (l.length+1) vau none)] [.gone,.gone,.cells ((l.take i++x::l.drop i).flatMap vas)] zH<|zZ [(6,ao vau (l.take i++x::l.drop i) vas)] 2 rfl ⟨.inr (by rw[qf,hqn];exact .buf rfl (by rw[<-hqn,dU (enc:=vas) (e:=vau) gc];exact cA.refl (aC vat _)) (by rw[aU (enc:=vas) (e:=vau) gc,hqn];exact Nat.le_refl _)),trivial⟩<|zA [(6,ao vau (l.take i++x::l.drop i) vas)] [.gone,.gone] zH<|(zE) ?_;exact zP [.tmp 6]
  have hcap2:l.length+1<=cap:=by ((try simp only[vau] at *)<;>omega)
  have hXl:(l.flatMap vas++A).length=cap*vau:=by rw[li,hcl,hAl];((try simp only[vau] at *)<;>omega)
  simp only[vau] at hXl;have hnn:(-9223372036854775808:Int)<=(l.length:Int)+1/\(l.length:Int)+1<=9223372036854775807:=⟨by ((try simp only[vau] at *)<;>omega),by ((try simp only[vau] at *)<;>omega)⟩
  refine(aB (cJ hc1 (BM hnn) (show decide ((cap:Int)<(l.length:Int)+1)=false by simp only[wn];((try simp only[vau] at *)<;>omega))))<|(zN) ?_
  have hbt:cO l.length (some cap) none (some (.int .i64 ((l.length+1:Nat):Int))) none=some (0,l.length+1,some cap):=by
   unfold cO oP qm;simp only[oX,m7,fc hcap2,Bool.or_true,aq]
  refine(zs) ?_;refine aE.r0 ii (pz (fk hc1 (BM hnn) (DI) hbt)) ?_;have hii:(-9223372036854775808:Int)<=(i:Int)+1/\(i:Int)+1<=9223372036854775807:=⟨by ((try simp only[vau] at *)<;>omega),by ((try simp only[vau] at *)<;>omega)⟩
  refine(zs) ?_;refine aE.Si ii (pz (kY hc1 (BM hii) (DI) (Lm (show i+1<=l.length+1 by ((try simp only[vau] at *)<;>omega))) @Nat.sub_zero)) ?_;refine aN.Wo vax ii rfl rfl ii rfl zc rfl rfl rfl rfl g9 g9 (by ((try simp only[vau] at *)<;>omega)) (by rw[hXl];((try simp only[vau] at *)<;>omega)) ?_;refine(zR)<|(zY) ?_
  have hdr:(((l.flatMap vas++A).drop (i*vau)).take ((l.length+1-i)*vau)).take ((l.length-i)*vau)=(l.drop i).flatMap vas:=by
   rw[List.take_take,Nat.min_eq_left (by ((try simp only[vau] at *)<;>omega)),List.drop_append_of_le_length (by rw[hcl];((try simp only[vau] at *)<;>omega)),mR (enc:=vas) (e:=vau) gc,List.take_append_of_le_length (by rw[aU (enc:=vas) (e:=vau) gc,List.length_drop];exact Nat.le_refl _),List.take_of_length_le];rw[aU (enc:=vas) (e:=vau) gc,List.length_drop];exact Nat.le_refl _
  simp only[vau] at hdr
  have hdl:(((l.flatMap vas++A).drop (i*vau)).take ((l.length+1-i)*vau)).length=(l.length+1-i)*vau:=by
   rw[List.length_take,List.length_drop,hXl,Nat.min_eq_left (by ((try simp only[vau] at *)<;>omega))]
  simp only[vau] at hdl;have hdo:((l.drop i).flatMap vas).all eP=true:=vaw (l.drop i);obtain⟨w1,hw1⟩:∃w1,w1=(l.flatMap vas++A).take ((i+1)*vau)++((l.drop i).flatMap vas++(l.flatMap vas++A).drop ((i+1)*vau+(l.length-i)*vau)):=⟨_,rfl⟩
  have hw1l:w1.length=cap*vau:=by rw[hw1,li,li,List.length_take,List.length_drop,hXl,aU (enc:=vas) (e:=vau) gc,List.length_drop,Nat.min_eq_left (by ((try simp only[vau] at *)<;>omega))];((try simp only[vau] at *)<;>omega)
  simp only[vau] at hw1l;obtain⟨w2,hw2⟩:∃w2,w2=w1.take (i*vau)++(vas x++w1.drop (i*vau+vau)):=⟨_,rfl⟩
  have hw2l:w2.length=cap*vau:=by rw[hw2,li,li,List.length_take,List.length_drop,hw1l,hxl,Nat.min_eq_left (by ((try simp only[vau] at *)<;>omega))];((try simp only[vau] at *)<;>omega)
  simp only[vau] at hw2l
  have hfin:w2.take ((l.length+1)*vau)=(l.take i++x::l.drop i).flatMap vas:=by rw[hw2,hw1];exact vay l i x hlt A
  simp only[vau] at hfin;refine(zs) ?_;refine nw [0,0,0,6,15,0,0,96,255] ?_
  (repeat (first | refine SD.r ii rfl ii ii (pz (kY (BM hii) (DI) (Lm (show i+1<=l.length+1 by ((try simp only[vau] at *)<;>omega))) (Lm (show i<=l.length+1 by ((try simp only[vau] at *)<;>omega))) @Nat.sub_zero)) ?_ | refine SD.s ii rfl ii ii ?_ | fail))
  refine SD.ed ii rfl ii rfl rfl ii (pz (bm (Lx hXl hcl (show i*vau+(l.length+1-i)*vau<=cap*vau by ((try simp only[vau] at *)<;>omega)) (show Nat.min (l.length+1-i) (l.length+1-(i+1))=l.length-i by simp only[Nat.min_def];split<;>((try simp only[vau] at *)<;>omega)) (show ¬(l.length-i=0) by ((try simp only[vau] at *)<;>omega)) (show(i+1)*vau+(l.length-i)*vau<=cap*vau by ((try simp only[vau] at *)<;>omega)) hdr hdl (show(l.length-i)*vau<=(l.length+1-i)*vau by ((try simp only[vau] at *)<;>omega))) (cJ hdo @Nat.le_refl (Eq.symm hw1)))) ?_;refine(zM)<|(aB (T1 (Lm (show i<=l.length+1 by ((try simp only[vau] at *)<;>omega))) hxl hxt (show Nat.min 1 (l.length+1-i)=1 by simp only[Nat.min_def];rw[ut (by ((try simp only[vau] at *)<;>omega))]) hw1l (show i*vau+vau<=cap*vau by ((try simp only[vau] at *)<;>omega)) hon (Eq.symm hw2)))<|(zV) ?_
  have hqn:(l.take i++x::l.drop i).length=l.length+1:=by rw[li,i7,List.length_take,List.length_drop,Nat.min_eq_left hi];((try simp only[vau] at *)<;>omega)
  refine zA [(6,.buf 0 (l.length+1) vau (some cap))] [.cells w2,.gone] zH<|zZ [(6,ao vau (l.take i++x::l.drop i) vas)] 0 rfl ⟨.inr (by rw[qf,hqn];exact .buf rfl (by rw[hfin];exact cA.refl (aC vat _)) (by rw[hw2l];((try simp only[vau] at *)<;>omega))),trivial⟩<|(zE) ?_;exact zP [.tmp 6]):p:=h
open Go.Proofs.Tryz renaming func195 -> var in
open Go.Proofs renaming ae -> vas,V7 -> vav in
open Go.Ev renaming vF -> vau in
def Ei(l:List ak)(i:Nat)(x:ak)(hi:i<=l.length)(hne:0<l.length)(hlen:l.length<=100000):SC prog 195 [.buf 0 l.length 14 none,qT i,.buf 1 1 14 (some 1)] [.cells (l.flatMap ae),.cells (ae x)] [0,1] (λr S'=>r=ao 14 (l.take i++x::l.drop i) ae/\S'=[.gone,.gone]):=by
 have vat:=@dr;have vaw:=@Co;have vax:=@ED;have vay:=@Qz;exact R5
def EE:CU prog 265:=by
 intro w a b la ca lb cb tA tB kA kB h1 h2 h3 h4 h5 h6
 rw[run_callFunc_extern Tryz.func265 zW zW zW (e:=Extern.SlicesOverlaps.overlaps #[50,50] #[4]) zW,
  Lib.run_overlaps_apart w 50 4 198 zW 2 (λw=>bR zW) a b la ca lb cb h1 tA tB kA kB h2 h3 h4 h5 h6]
 rfl
def Br(x:bC):SC prog 200 [.e0 2,qT 0,.buf 0 1 2 (some 1)] [.cells (aI x)] [0] (λr S'=>r=ao 2 [x] aI/\S'=[.gone]):=by
 refine Pu 95 Tryz.func200 ?_;have hkc:=λo:Nat=>bV (o:=o) (gU x);have hon:(aI x).all eP=true:=rfl;rw[pJ] at hkc hon ⊢
 refine(nD)<|(nD)<|(lD)<|(xw)<|(aB (bm hkc hon))<|zA [(6,.buf 1 1 2 none)] [.gone,.cells (aI x)] (cg @pJ) ?_;refine zZ [(6,ao 2 [x] aI)] 1 rfl ⟨.inr (.buf rfl (by rw[flatMap_cons,flatMap_nil,append_nil];exact cA.refl (gU x)) (by show 1*2<=2;decide)),trivial⟩<|zA [(6,ao 2 [x] aI)] [.gone] zH<|(zE) ?_;exact zP [.tmp 6]
open Go.Proofs renaming bC -> vao,aI -> vap in
open Go.Ev renaming KF -> vaq in
def QA(l:List bC)(i:Nat)(x:bC)(hi:i<l.length)(A:List SV):
 (((l.flatMap aI++A).take ((i+1)*2)++((l.drop i).flatMap aI++(l.flatMap aI++A).drop ((i+1)*2+(l.length-i)*2))).take (i*2)++(aI x++((l.flatMap aI++A).take ((i+1)*2)++((l.drop i).flatMap aI++(l.flatMap aI++A).drop ((i+1)*2+(l.length-i)*2))).drop (i*2+2))).take ((l.length+1)*2)=(l.take i++x::l.drop i).flatMap aI:=by
 exact R4
open Go.Proofs.Tryz renaming func200 -> var in
open Go.Proofs renaming aI -> vas,V8 -> vav in
open Go.Ev renaming KF -> vau in
def Ej(l:List bC)(i:Nat)(x:bC)(hi:i<=l.length)(hne:0<l.length)(hlen:l.length<=100000):SC prog 200 [.buf 0 l.length 2 none,qT i,.buf 1 1 2 (some 1)] [.cells (l.flatMap aI),.cells (aI x)] [0,1] (λr S'=>r=ao 2 (l.take i++x::l.drop i) aI/\S'=[.gone,.gone]):=by
 have vat:=@gU;have vaw:=@Cq;have vax:=@EE;have vay:=@QA;exact R5
def nR{a:List Nat}:∀{l:List (List Nat)},eu (a::l)=true->∀x∈l,fF a x=true
 | [],_,x,h=>by simp at h
 | b::r,ho,x,h=>by
  rw[eu,ac] at ho
  rcases t7 h with rfl | h
  ·exact ho.1
  ·exact fG ho.1 (nR ho.2 x h)
def iJ{a:List Nat}{l:List (List Nat)}(h:eu (a::l)=true):eu l=true:=by
 cases l with
 | nil=>rfl
 | cons b r=>rw[eu,ac] at h;exact h.2
def rb{α:Type}(key:α->List Nat):∀{l:List α},eu (l.map key)=true->∀k:List Nat,(l.takeWhile λx=>fF (key x) k).length<=l.length/\∀(a:Nat) (x:α),l[a]?=some x->(fF (key x) k=true↔a<(l.takeWhile λx=>fF (key x) k).length)
 | [],_,k=>⟨aa _,λa x h=>by simp at h⟩
 | y::l,ho,k=>by
  have ih:=rb key (iJ ho) k;have hlt:=nR (a:=key y) (l:=l.map key) ho
  cases h:fF (key y) k with
  | true=>
   rw[dd,ut h,i7,i7];refine⟨Nat.succ_le_succ ih.1,λa x hx=>?_⟩
   cases a with
   | zero=>simp only[cp,qr] at hx;subst hx;exact⟨λ_=>er _,λ_=>h⟩
   | succ a=>simp only[bi] at hx;rw[ih.2 a x hx];exact⟨Nat.succ_lt_succ,Nat.lt_of_succ_lt_succ⟩
  | false=>
   rw[dd,v6 (by rw[h];decide),i5];refine⟨bt _,λa x hx=>⟨λhh=>?_,λhh=>un hh (ch _)⟩⟩;exfalso
   cases a with
   | zero=>simp only[cp,qr] at hx;subst hx;rw[h] at hh;cases hh
   | succ a=>
    simp only[bi] at hx;have:=fG (hlt _ (dc (aS hx))) hh;rw[h] at this;cases this
def nS(l:List ak)(k:List Nat):Nat:=(l.takeWhile λx=>fF (ak.name x) k).length
def cy(l:List ak)(x:ak):List ak:=if gz l (ak.name x) (nS l (ak.name x))=true then l.set (nS l (ak.name x)) x else l.take (nS l (ak.name x))++x::l.drop (nS l (ak.name x))
def Mq{l:List ak}(ho:eu (l.map ak.name)=true)(k:List Nat):BG l k (nS l k):=
 ⟨(rb ak.name ho k).1,(rb ak.name ho k).2⟩
def xp(y:ak)(k:List Nat){g:FuncId}{cap:List SV}(hcap:cj cap=true)(hk:PC prog g ([.ag (ae y)]++cap) (·=ah (ak.name y))):PC prog 194 [.ag (ae y),ah k,.ip [.fn g [] cap]] (·=ab (xd (ak.name y) k)):=by
 refine pB 11 Tryz.func194 ?_;have hkc:=λo:Nat=>bV (o:=o) (dr y);have hxl:(ae y).length=14:=rfl;have hxt:(ae y).take 14=ae y:=rfl
 exact(aB hkc)<|(eQ (bm hxl hxt))<|(zK hk (hwk:=cA.refl (mS (by simp only[cj,mC,dr];rfl) hcap)))<|(zQ)<|(zK (sz (ak.name y) k))<|(zR)<|zo [.tmp 5]
def R6 (h:p:=by
  refine pB 32 vaz ?_;have hkc:=λo:Nat=>bV (o:=o) (va0 x);have hkl:=λo:Nat=>bp (enc:=va1) va0 o l;have hkp:=λo:Nat=>bV (o:=o) hcap;have hxl:(va1 x).length=va2:=rfl;simp only[va2] at hxl;have hxt:(va1 x).take va2=va1 x:=rfl;simp only[va2] at hxt;have hon:(va1 x).all eP=true:=rfl;have hnk:∀o:Nat,aP o (.fn g [] cap)=.fn g [] cap:=λo=>vx (by rw[mC,hcap];rfl);have hnc:∀o:Nat,eI o cap=false:=λo=>cm hcap;have hnx:∀o:Nat,eI o (va1 x)=false:=λo=>cm (va0 x)
  have hgf:cj [SV.fn g [] cap]=true:=by rw[cj,mC,hcap];rfl
  have hbl:∀B:Nat,iy B (l.flatMap va1)=true:=λB=>bM (aC va0 l);have hrl:∀r:Nat->Nat,mG r (l.flatMap va1)=l.flatMap va1:=λr=>bl (aC va0 l);have hbc:∀B:Nat,iy B (va1 x)=true:=λB=>bM (va0 x);have hrc:∀r:Nat->Nat,mG r (va1 x)=va1 x:=λr=>bl (va0 x);have hbq:∀(B:Nat) (q:List va3),iy B (q.flatMap va1)=true:=λB q=>bM (aC va0 q);have hrq:∀(r:Nat->Nat) (q:List va3),mG r (q.flatMap va1)=q.flatMap va1:=λr q=>bl (aC va0 q);have hpart:=va4 ho (va5 x);have hbs:=va6 l hlen (g:=va7) (cap:=[.ip [.fn g [] cap]]) rfl (va5 x) _ (λy _=>va8 y (va5 x) hcap (hk y)) hpart;generalize hpos:va9 l (va5 x)=pos at hpart hbs
  have hput:vba l x=if vbb l (va5 x) pos=true then l.set pos x else l.take pos++x::l.drop pos:=by rw[vba,hpos]
  refine(aB (fk hkc hnk hnc hnx))<|(eQ (bm hxl hxt))<|(zK (hk x) (hwk:=cA.refl (mS (by simp only[cj,mC,va0];rfl) hcap)))<|(zQ)<|(zK hbs (hwk:=.cons (.sl _ _ _) (.cons (.a _) (.cons (.fn .nil (.cons (.ptr rfl (cA.refl hgf) (Nat.zero_le _)) .nil)) .nil))))<|(zR)<|(zC) ?_
  by_cases hne:l=[]
  ·subst hne
   have hf0:vbb [] (va5 x) pos=false:=by unfold vbb;rw[List.getElem?_nil]
   have hp0:pos=0:=Nat.le_zero.1 hpart.le;rw[hf0] at hput ⊢;subst hp0
   refine zS [] (fk hkc hnk hnc hnx) vbc ?_;refine(zR)<|(CP)<|(eQ (vc hxl hxt hkc hnk hnc hnx)) ?_;refine zS [2] (fk hkc hnk hnc hnx) (vbd x) ?_;exact(zR)<|zo [.tmp 6] (r:=ao va2 [x] va1) (hw:=zv) (hq:=by rw[hput];rfl)
  have hs:0<l.length:=Nat.pos_of_ne_zero (λe=>hne (t8 e))
  refine zS [] (EY hkc hnk hnc hnx hkl hbl hrl) (vbe l (by ((try simp only[va2,va7] at *)<;>omega)) hne) ?_;refine(zR)<|(zV) ?_
  cases hfd:vbb l (va5 x) pos
  ·rw[hfd,v6 g9] at hput
   refine(zN)<|(eQ (EY hxl hxt hkc hnk hnc hnx hkl)) ?_;refine zS [3,4] (bm (Lx hkc hnk hnc hnx hkl hbl hrl hrc hbc) (bm hrq hbq)) (vbf l pos x hpart.le hs hlen) ?_;exact(zR)<|zo [.tmp 6] (r:=ao va2 (l.take pos++x::l.drop pos) va1) (hw:=zv) (hq:=by rw[hput])
  ·rw[hfd,ut rfl] at hput;refine(zY) ?_
   have hlt:pos<l.length:=by
    apply Decidable.byContradiction;intro hn;unfold vbb at hfd;rw[List.getElem?_eq_none (by ((try simp only[va2,va7] at *)<;>omega))] at hfd;cases hfd
   have hcl:(l.flatMap va1).length=l.length*va2:=aU (enc:=va1) (e:=va2) gc l;simp only[va2] at hcl;have hst:=rG (enc:=va1) (e:=va2) gc x hlt
   refine(aB (EY hlt hxl hxt hcl (show pos*va2+va2<=l.length*va2 by ((try simp only[va2,va7] at *)<;>omega)) hon hst))<|(zV) ?_
   have hsl:(l.set pos x).length=l.length:=List.length_set
   exact zo [.tmp 6] (r:=.sl l.length va2 ((l.set pos x).flatMap va1)) (hw:=.buf rfl (by rw[<-hsl,dU (enc:=va1) (e:=va2) gc];exact cA.refl (aC va0 _)) (by rw[aU (enc:=va1) (e:=va2) gc,hsl];exact Nat.le_refl _)) (hq:=by rw[hput,ao,hsl])):p:=h
open Go.Proofs.Tryz renaming func110 -> vaz in
open Go.Proofs renaming ae -> va1,ak -> va3,nS -> va9,cy -> vba,gz -> vbb in
open Go.Ev renaming vF -> va2,Q5 -> va7 in
open Go.Proofs.ak renaming name -> va5 in
def EF(l:List ak)(hlen:l.length<=100000)(x:ak){g:FuncId}(hcap:cj cap=true)(hk:∀y,PC prog g ([.ag (ae y)]++cap) (·=ah (ak.name y)))(ho:eu (l.map ak.name)=true):
 PC prog 110 [ao 14 l ae,.ag (ae x),.fn g [] cap] (·=ao 14 (Proofs.cy l x) ae):=by
 have va0:=@dr;have va4:=@Mq;have va6:=@G2;have va8:=@xp;have vbc:=@xm;have vbd:=@Bq;have vbe:=@qq;have vbf:=@Ei;exact R6
def nT(l:List bC)(k:List Nat):Nat:=(l.takeWhile λx=>fF (bC.key x) k).length
def gI(l:List bC)(x:bC):List bC:=if iB l (bC.key x) (nT l (bC.key x))=true then l.set (nT l (bC.key x)) x else l.take (nT l (bC.key x))++x::l.drop (nT l (bC.key x))
def Mr{l:List bC}(ho:eu (l.map bC.key)=true)(k:List Nat):BH l k (nT l k):=
 ⟨(rb bC.key ho k).1,(rb bC.key ho k).2⟩
def xq(y:bC)(k:List Nat){g:FuncId}{cap:List SV}(hcap:cj cap=true)(hk:PC prog g ([.ag (aI y)]++cap) (·=ah (bC.key y))):PC prog 198 [.ag (aI y),ah k,.ip [.fn g [] cap]] (·=ab (xd (bC.key y) k)):=by
 refine pB 11 Tryz.func198 ?_;have hkc:=λo:Nat=>bV (o:=o) (gU y);have hxl:(aI y).length=2:=rfl;have hxt:(aI y).take 2=aI y:=rfl
 exact(aB hkc)<|(eQ (bm hxl hxt))<|(zK hk (hwk:=cA.refl (mS (by simp only[cj,mC,gU];rfl) hcap)))<|(zQ)<|(zK (sz (bC.key y) k))<|(zR)<|zo [.tmp 5]
open Go.Proofs.Tryz renaming func118 -> vaz in
open Go.Proofs renaming aI -> va1,bC -> va3,nT -> va9,gI -> vba,iB -> vbb in
open Go.Ev renaming KF -> va2,Q6 -> va7 in
open Go.Proofs.bC renaming key -> va5 in
def EG(l:List bC)(hlen:l.length<=100000)(x:bC){g:FuncId}(hcap:cj cap=true)(hk:∀y,PC prog g ([.ag (aI y)]++cap) (·=ah (bC.key y)))(ho:eu (l.map bC.key)=true):
 PC prog 118 [ao 2 l aI,.ag (aI x),.fn g [] cap] (·=ao 2 (Proofs.gI l x) aI):=by
 have va0:=@gU;have va4:=@Mr;have va6:=@G3;have va8:=@xq;have vbc:=@xn;have vbd:=@Br;have vbe:=@xo;have vbf:=@Ej;exact R6
open Go.Proofs.Tryz renaming func196 -> vaa in
open Go.Ev renaming vF -> vab in
open Go.Proofs renaming ae -> vac in
def Em{l:List (ak)}(p:ak->Bool)(hlen:l.length<=1000000)(hp:∀x∈l,PC prog fid ((first++[.ag (ae x)])++cap) (·=an (p x)))(hg:cj first=true/\cj cap=true):PC prog 196 [ao 14 l ae,.fn fid first cap] (·=ab (gf p l)):=by
 have vad:=@ae.eq_1;exact Kk
def uE{l:List (ak)}(p:ak->Bool)(hlen:l.length<=1000000)(hp:∀x∈l,PC prog fid ((first++[.ag (ae x)])++cap) (·=an (p x)))(hg:cj first=true/\cj cap=true):PC prog 115 [ao 14 l ae,.fn fid first cap] (·=an (l.any p)):=by
 refine pB 9 Tryz.func115 ?_;exact(jC)<|(zK (Em p hlen hp hg) (hwk:=.cons (Wk.sl _ _ _) (.cons (.fn (cA.refl hg.1) (cA.refl hg.2)) .nil)))<|(zR)<|zo [.tmp 4] (hq:=by rw[nM])
def ku(r:List ak×Int):SV:=.cx [.ag [ao 14 r.1 ae],ab r.2]
def db(k:Int):PC prog 112 [ab k] (·=ku ([],k)):=by
 refine pB 6 Tryz.func112 ?_;exact(nD)<|kn [.cell 2 46,.tmp 3] (r:=.cx [.ag [.sl 0 14 []],ab k]) (hw:=zv)
def Bt(p:ak):PC prog 111 [.ag (ae p)] (·=ah p.name):=by
 refine pB 5 Tryz.func111 ?_;exact(aB @ae.eq_1)<|(zV)<|zo [.tmp 2]
def Bu(p:bC):PC prog 119 [.ag (aI p)] (·=ah p.key):=by
 refine pB 5 Tryz.func119 ?_;exact(aB @aI.eq_1)<|(zV)<|zo [.tmp 2]
def fW(ps:List ak)(hlen:ps.length<=100000)(ho:eu (ps.map ak.name)=true)(p:ak):PC prog 109 [.ag (ae p),.ip [ao 14 ps ae]] (·=ku (Proofs.cy ps p,0)):=by
 refine pB 10 Tryz.func109 ?_;have hput:=EF ps hlen p (g:=111) (cap:=[]) rfl Bt ho;rw[dX] at hput ⊢
 exact(jC)<|(zK hput (hfl:=.inr zr))<|(zR)<|kn [.cell 3 46,.tmp 4]
def Hc(e:br)(q:ak):PC prog 117 [.ag (ae q),.ip (au e)] (·=an (decide (q.aT=e.aT)&&decide (q.slot=e.slot))):=by
 refine pB 16 Tryz.func117 ?_;refine(aB (bm @ae.eq_1 @au.eq_1)) ?_;cases h:decide (q.aT=e.aT)
 ·exact(aB h)<|zo [.tmp 3]
 ·exact(aB h)<|zo [.tmp 3]
def He(p q:ak):PC prog 120 [.ag (ae q),.ip (ae p)] (·=an (decide (q.aT=p.name))):=by
 refine pB 9 Tryz.func120 ?_;exact(aB @ae.eq_1)<|(zV)<|zo [.tmp 3]
def uH(ps:List ak)(hlen:ps.length<=1000000)(d:ak->Bool){g:FuncId}(hcap:cj cap=true)(hp:∀q∈ps,PC prog g ([.ag (ae q)]++cap) (·=an (d q))):PC prog 114 [.fn g [] cap,.ip [ao 14 ps ae]] (·=an (ps.any d)):=by
 refine pB 8 Tryz.func114 ?_;have h:=uE (l:=ps) d (fid:=g) (first:=[]) (cap:=cap) hlen hp ⟨rfl,hcap⟩
 exact(jC)<|(zK h (hwk:=cA.cons (Wk.sl _ _ _) (.cons (.fn .nil (cA.refl hcap)) .nil)))<|(zR)<|zo [.tmp 3]
def nQ(e:br):ak:=⟨e.part,e.kind,[],[],e.day,e.day,false,[],0,0,0,0,0,0⟩
def zu(c:List aM)(ps:List ak)(e:br)(is:Bool):List ak×Int:=
 if is=true then ([],3) else if (dF c e.kind).isNone=true then ([],4) else if ((ps.length:Int)=20000) then ([],7) else (cy ps (nQ e),0)
def xf(p:ak)(e:br):ak:={ p with aT:=e.aT,slot:=e.slot }
def z7(p:ak):ak:={ p with aT:=[],slot:=[] }
def lI(p:ak)(e:br):ak:={ p with since:=dV p.since e.day,l1:=0,l2:=0,l3:=0,l4:=0,l5:=0,l6:=0 }
def qn(p:ak)(e:br):ak:={ p with props:=gI p.props ⟨e.key,e.value⟩ }
def qM(p:ak):ak:={ p with bq:=true }
def jg(c:List aM)(ps:List ak)(e:br)(p h:ak):List ak×Int:=
 let k:=(dF c p.kind).getD aM.zero
 if e.op=2 then (if (k.vehicle||!lR c h.kind e.slot p.kind)=true then ([],4) else if p.aT≠[] then ([],5) else
  if (ps.any λq=>decide (q.aT=e.aT)&&decide (q.slot=e.slot))=true then ([],6) else (cy ps (xf p e),0))
 else if e.op=3 then (if p.aT=[] then ([],5) else (cy ps (z7 p),0))
 else if e.op=4 then (if k.vehicle=true then (cy ps p,0) else ([],4))
 else if e.op=5 then (cy ps (lI p e),0)
 else if e.op=6 then (if 60<((Proofs.gI p.props ⟨e.key,e.value⟩).length:Int) then ([],7) else (cy ps (qn p e),0))
 else if e.op=7 then (if p.aT≠[] then ([],5) else if (ps.any λq=>decide (q.aT=p.name))=true then ([],5) else (cy ps (qM p),0))
 else (cy ps p,0)
def aR(c:List aM)(ps:List ak)(e:br):List ak×Int:=
 if dM c ps=true then (if dL e=true then
  (if e.op=1 then zu c ps e (pO ps (nv 0 [] ps) e.part).isSome else
   match pO ps (nv 0 [] ps) e.part,(if e.op=2 then pO ps (nv 0 [] ps) e.aT else pO ps (nv 0 [] ps) e.part) with
   | some p,some h=>if (p.bq||h.bq)=true then ([],5) else jg c ps e p h
   | _,_=>([],2))
  else ([],1)) else ([],1)
def qV{c:List aM}{ps:List ak}{m:List (List Nat×Int)}:∀{taken:List (fQ×Bool)} {l:List ak},fh c ps m taken l=true->∀p∈l,dJ c p=true
 | _,[],_,p,hp=>by simp at hp
 | taken,q::r,h,p,hp=>by
  rw[fh,ac,ac] at h
  rcases t7 hp with rfl | hp
  ·exact h.1
  ·cases hd:decide (q.aT=[]) with
   | true=>rw[hd,aq] at h;exact qV h.2.2 p hp
   | false=>rw[hd,aA,ac] at h;exact qV h.2.2.2 p hp
def JV{c:List aM}{ps:List ak}(h:dM c ps=true){p:ak}(hp:p∈ps):p.props.length<=60/\eu (p.props.map bC.key)=true:=by
 unfold dM at h;simp only[ac] at h;have:=qV h.2.2.2 p hp;unfold dJ at this;simp only[ac,bh,wn] at this;refine⟨by have:=this.2.2.2.2.2.1;omega,this.2.2.2.2.2.2.2.1⟩
def Ay(c:List aM)(ps:List ak)(e:br)(hc:mI c)(hlen:ps.length<=100000)(hps:∀p∈ps,fz p)(he:lY e):PC prog 48 [.ag [ao 3 c ar],.ag [ao 14 ps ae],.ag (au e)] (·=ku (aR c ps e)):=by
 have hlen1:ps.length<=1000000:=by omega
 have hct:∀k∈c,k.bN.length<=1000000/\∀s∈k.bN,s.kinds.length<=1000000:=λk hk=>⟨(hc.kind k hk).2,λs hs=>(hc.slot k hk s hs).2⟩;have hy:Sz ps (nv 0 [] ps):=C3 i4 (EW ps);have hvE:=HA e he;refine pB 235 Tryz.func48 ?_;rw[dq] at hvE ⊢
 refine(jC)<|(zK (HB c ps hc hlen1 hps)) ?_
 cases h1:Proofs.dM c ps
 ·exact(zR)<|(cK)<|kn [.cell 6 46,.tmp 7] (r:=.cx [.ag [.sl 0 14 []],ab 1]) (hw:=zv) (hq:=by rw[show aR c ps e=([],1) by simp[aR,h1]];rfl)
 refine(zQ)<|(zK hvE) ?_
 cases h2:dL e
 ·exact(zR)<|(cK)<|kn [.cell 6 46,.tmp 7] (r:=.cx [.ag [.sl 0 14 []],ab 1]) (hw:=zv) (hq:=by rw[show aR c ps e=([],1) by simp[aR,h1,h2]];rfl)
 refine(zR)<|(zN) ?_
 have ho:eu (ps.map ak.name)=true:=by
  unfold Proofs.dM at h1;simp only[ac] at h1;exact h1.2.2.1
 refine zA [(3,.ptr 0 0),(4,.ptr 1 0),(5,.ptr 2 0),(6,.ptr 3 0),(7,ab 0)] [.cells [ao 3 c ar],.cells [ao 14 ps ae],.cells [ab e.op,ab e.day,ah e.part,ah e.kind,ah e.aT,ah e.slot,ah e.key,ah e.value,ab e.u1,ab e.u2,ab e.u3,ab e.u4,ab e.u5,ab e.u6],.cells [.a (.slice none 0 0 (some 0))]] zH<|zZ [(3,.ip [ao 3 c ar]),(4,.ptr 1 0),(5,.ptr 2 0),(6,.ptr 3 0),(7,ab 0)] 0 rfl (gE @ao.eq_1)<|zZ [(3,.ip [ao 3 c ar]),(4,.ip [ao 14 ps ae]),(5,.ptr 2 0),(6,.ptr 3 0),(7,ab 0)] 1 rfl (gE @ao.eq_1)<|zZ [(3,.ip [ao 3 c ar]),(4,.ip [ao 14 ps ae]),(5,.ip [ab e.op,ab e.day,ah e.part,ah e.kind,ah e.aT,ah e.slot,ah e.key,ah e.value,ab e.u1,ab e.u2,ab e.u3,ab e.u4,ab e.u5,ab e.u6]),(6,.ptr 3 0),(7,ab 0)] 2 rfl (gE @ao.eq_1) ?_
 (try change aE _ _ _ _ _)
 refine(zC)<|(zK (rW ps hlen1) (hfl:=.inr zr)) ?_
 generalize hM:nv 0 [] ps=M at hy
 refine(cM (bm @CO.eq_1 hM))<|(nD)<|(zC) ?_
 have hG:=nr ps M e.part hy
 cases hg:pO ps M e.part with
 | none=>
  rw[hg] at hG
  refine(zK hG (hfl:=.inr zr))<|(cM (cJ @jf.eq_1 @ae.eq_1 @ak.zero.eq_1)) ?_
  by_cases ho1:e.op=1
  ·refine(aB (wl ho1))<|(cK)<|(M4) ?_
   have hF:=kP c e.kind hc.len
   cases hf:dF c e.kind with
   | none=>
    rw[hf] at hF
    exact(zK hF (hfl:=.inr zr))<|(cM (cJ @jf.eq_1 @ar.eq_1 @aM.zero.eq_1))<|(xw)<|(zC)<|(zK (db _) (hfl:=.inr zr))<|(cM @ao.eq_1)<|kn [.cell 6 46,.tmp 7] (hq:=by rw[show aR c ps e=([],4) by simp[aR,zu,h1,h2,hM,hg,ho1,hf]];rfl)
   | some k=>
    rw[hf] at hF
    refine(zK hF (hfl:=.inr zr))<|(cM (bm @jf.eq_1 @ar.eq_1))<|(CP) ?_
    by_cases hl:(ps.length:Int)=20000
    ·exact(aB (wl hl))<|(zY)<|(zC)<|(zK (db _) (hfl:=.inr zr))<|(cM @ao.eq_1)<|kn [.cell 6 46,.tmp 7] (hq:=by rw[show aR c ps e=([],7) by simp[aR,zu,h1,h2,hM,hg,ho1,hf,hl]];rfl)
    ·refine(aB (wd hl))<|(zN) ?_
     have hnext:=fW ps hlen ho (nQ e);simp only[dX,nQ] at hnext
     exact(zC)<|(zK hnext (hfl:=.inr zw))<|(cM (bm @ku.eq_1 @ao.eq_1))<|kn [.cell 6 46,.tmp 7] (hq:=by rw[show aR c ps e=(Proofs.cy ps (nQ e),0) by simp[aR,zu,h1,h2,hM,hg,ho1,hf,hl]];rfl)
  by_cases ho2:e.op=2
  ·refine(aB (wd ho1))<|(lD)<|(aB (wl ho2))<|(zY)<|(zC) ?_
   have hH:=nr ps M e.aT hy
   obtain⟨q,b,hq⟩:∃(q:ak) (b:Bool),jf ae ak.zero (pO ps M e.aT)=.cx [.ag (ae q),an b]:=by
    cases pO ps M e.aT with
    | none=>exact⟨ak.zero,false,rfl⟩
    | some q=>exact⟨q,true,rfl⟩
   rw[hq] at hH
   exact(zK hH (hfl:=.inr zr))<|(cM @ae.eq_1)<|(xw)<|(zC)<|(zK (db _) (hfl:=.inr zr))<|(cM @ao.eq_1)<|kn [.cell 6 46,.tmp 7] (hq:=by rw[show aR c ps e=([],2) by simp[aR,h1,h2,hM,hg,ho1,ho2]];rfl)
  ·exact(aB (wd ho1))<|(lD)<|(aB (wd ho2))<|(lD)<|(zY)<|(zC)<|(zK (db _) (hfl:=.inr zr))<|(cM @ao.eq_1)<|kn [.cell 6 46,.tmp 7] (hq:=by rw[show aR c ps e=([],2) by simp[aR,h1,h2,hM,hg,ho1,ho2]];rfl)
 | some p=>
  rw[hg] at hG
  refine(zK hG (hfl:=.inr zr))<|(cM (bm @jf.eq_1 @ae.eq_1)) ?_
  by_cases ho1:e.op=1
  ·exact(aB (wl ho1))<|(cK)<|(zY)<|(zC)<|(zK (db _) (hfl:=.inr zr))<|(cM @ao.eq_1)<|kn [.cell 6 46,.tmp 7] (hq:=by rw[show aR c ps e=([],3) by simp[aR,zu,h1,h2,hM,hg,ho1]];rfl)
  refine zA [(3,.ip [ao 3 c ar]),(4,.ip [ao 14 ps ae]),(5,.ip [ab e.op,ab e.day,ah e.part,ah e.kind,ah e.aT,ah e.slot,ah e.key,ah e.value,ab e.u1,ab e.u2,ab e.u3,ab e.u4,ab e.u5,ab e.u6]),(6,.ptr 3 0),(7,ab 0),(8,.ptr 4 0),(9,.fn 109 [] [.ip [ao 14 ps ae]]),(10,.fn 112 [] []),(11,.ptr 5 0),(12,an true)] [.gone,.gone,.gone,.cells [.a (.slice none 0 0 (some 0))],.cells [ao 14 ps ae,mc AV.str ab M],.cells [ah p.name,ah p.kind,ah p.aT,ah p.slot,ab p.made,ab p.since,an p.bq,ao 2 p.props aI,ab p.l1,ab p.l2,ab p.l3,ab p.l4,ab p.l5,ab p.l6]] zH<|(aB (wd ho1))<|(lD) ?_
  by_cases ho2:e.op=2
  ·refine(aB (wl ho2))<|(zY)<|(zC) ?_
   have hH:=nr ps M e.aT hy
   cases hh:pO ps M e.aT with
   | none=>
    rw[hh] at hH
    exact(zK hH (hfl:=.inr zr))<|(cM (cJ @jf.eq_1 @ae.eq_1 @ak.zero.eq_1))<|(xw)<|(zC)<|(zK (db _) (hfl:=.inr zr))<|(cM @ao.eq_1)<|kn [.cell 6 46,.tmp 7] (hq:=by rw[show aR c ps e=([],2) by simp[aR,h1,h2,hM,hg,ho1,ho2,hh]];rfl)
   | some h=>
    rw[hh] at hH
    refine(zK hH (hfl:=.inr zr))<|(cM (bm @jf.eq_1 @ae.eq_1))<|(CP) ?_
    cases f1:p.bq;rotate_left
    ·exact(aB f1)<|(zY)<|(zC)<|(zK (db _) (hfl:=.inr zr))<|(cM @ao.eq_1)<|kn [.cell 6 46,.tmp 7] (hq:=by rw[show aR c ps e=([],5) by simp[aR,h1,h2,hM,hg,ho1,ho2,hh,f1]];rfl)
    cases f2:h.bq;rotate_left
    ·exact(aB (bm f1 f2))<|(zY)<|(zC)<|(zK (db _) (hfl:=.inr zr))<|(cM @ao.eq_1)<|kn [.cell 6 46,.tmp 7] (hq:=by rw[show aR c ps e=([],5) by simp[aR,h1,h2,hM,hg,ho1,ho2,hh,f1,f2]];rfl)
    refine(aB (bm f1 f2))<|(lD)<|(zC) ?_
    have hF:=kP c p.kind hc.len
    obtain⟨kd,b,hq,hkd⟩:∃(kd:aM) (b:Bool),jf ar aM.zero (dF c p.kind)=.cx [.ag (ar kd),an b]/\(dF c p.kind).getD aM.zero=kd:=by
     cases dF c p.kind with
     | none=>exact⟨aM.zero,false,rfl,rfl⟩
     | some q=>exact⟨q,true,rfl,rfl⟩
    rw[hq] at hF
    refine(zK hF (hfl:=.inr zr))<|(cM @ar.eq_1)<|(zV)<|zA [(3,.ip [ao 3 c ar]),(4,.ip [ao 14 ps ae]),(5,.ip [ab e.op,ab e.day,ah e.part,ah e.kind,ah e.aT,ah e.slot,ah e.key,ah e.value,ab e.u1,ab e.u2,ab e.u3,ab e.u4,ab e.u5,ab e.u6]),(6,.ptr 3 0),(7,ab 0),(9,.fn 109 [] [.ip [ao 14 ps ae]]),(10,.fn 112 [] []),(11,.ptr 5 0),(15,.ptr 6 0),(17,.fn 114 [] [.ip [ao 14 ps ae]]),(18,.ptr 7 0),(123,ab e.op)] [.gone,.gone,.gone,.cells [.a (.slice none 0 0 (some 0))],.gone,.cells [ah p.name,ah p.kind,ah p.aT,ah p.slot,ab p.made,ab p.since,an false,ao 2 p.props aI,ab p.l1,ab p.l2,ab p.l3,ab p.l4,ab p.l5,ab p.l6],.cells [ah h.name,ah h.kind,ah h.aT,ah h.slot,ab h.made,ab h.since,an false,ao 2 h.props aI,ab h.l1,ab h.l2,ab h.l3,ab h.l4,ab h.l5,ab h.l6],.cells [ah kd.name,an kd.vehicle,ao 3 kd.bN bJ]] (cg @ae.eq_1)<|(zB) ?_
    refine(aB (wl ho2))<|(fw) ?_
    cases g1:kd.vehicle;rotate_left
    ·exact(aB g1)<|(zY)<|(zC)<|(zK (db _) (hfl:=.inr zr))<|(cM @ao.eq_1)<|kn [.cell 6 46,.tmp 7] (hq:=by rw[show aR c ps e=([],4) by simp[aR,h1,h2,hM,hg,ho1,ho2,hh,f1,f2,jg,hkd,g1]];rfl)
    refine(eQ g1)<|(zK (wW c h.kind e.slot p.kind hc.len hct)) ?_
    cases g2:Proofs.lR c h.kind e.slot p.kind
    ·exact(zR)<|(zY)<|(zC)<|(zK (db _) (hfl:=.inr zr))<|(cM @ao.eq_1)<|kn [.cell 6 46,.tmp 7] (hq:=by rw[show aR c ps e=([],4) by simp[aR,h1,h2,hM,hg,ho1,ho2,hh,f1,f2,jg,hkd,g1,g2]];rfl)
    refine(zR)<|(zN) ?_
    by_cases g3:p.aT=[];rotate_left
    ·exact(aB (wd g3))<|(zY)<|(zC)<|(zK (db _) (hfl:=.inr zr))<|(cM @ao.eq_1)<|kn [.cell 6 46,.tmp 7] (hq:=by rw[show aR c ps e=([],5) by simp[aR,h1,h2,hM,hg,ho1,ho2,hh,f1,f2,jg,hkd,g1,g2,g3]];rfl)
    refine(aB (wl g3))<|(M4) ?_
    have hho:=uH ps hlen1 (λq=>decide (q.aT=e.aT)&&decide (q.slot=e.slot)) (g:=117) (cap:=[.ip [ab e.op,ab e.day,ah e.part,ah e.kind,ah e.aT,ah e.slot,ah e.key,ah e.value,ab e.u1,ab e.u2,ab e.u3,ab e.u4,ab e.u5,ab e.u6]]) rfl (λq _=>by rw[<-dq];exact Hc e q);refine(zK hho) ?_;cases g4:ps.any λq=>decide (q.aT=e.aT)&&decide (q.slot=e.slot);rotate_left
    ·exact(zR)<|(zY)<|(zC)<|(zK (db _) (hfl:=.inr zr))<|(cM @ao.eq_1)<|kn [.cell 6 46,.tmp 7] (hq:=by rw[show aR c ps e=([],6) by simp[aR,h1,h2,hM,hg,ho1,ho2,hh,f1,f2,jg,hkd,g1,g2,g3,g4,-b6]];rfl)
    refine(zR)<|(zN) ?_
    (try change aE _ _ _ _ _)
    refine(zs) ?_;refine nw [0,1,0,4,3,19,63,127] ?_;refine(qx) ?_;refine SD.e ii rfl ii rfl rfl ii zl ?_;refine(qx) ?_;refine SD.e ii rfl ii rfl rfl ii zl ?_;refine(zM) ?_
    (try change aE _ _ _ _ _)
    obtain⟨R,hR⟩:∃R,R=Proofs.cy ps (xf p e):=⟨_,rfl⟩;have hnext:=fW ps hlen ho (xf p e);rw[<-hR] at hnext;simp only[dX,f1,xf,z7,lI,qn,qM] at hnext
    exact(zC)<|(zK hnext (hfl:=.inr zw))<|(cM (bm @ku.eq_1 @ao.eq_1))<|kn [.cell 6 46,.tmp 7] (hq:=by rw[show aR c ps e=(R,0) by rw[hR];simp[aR,h1,h2,hM,hg,ho1,ho2,hh,f1,f2,jg,hkd,g1,g2,g3,g4,-b6,-dC]];rfl)
  ·refine(aB (wd ho2))<|(lD)<|(zN) ?_
   cases f1:p.bq;rotate_left
   ·exact(aB f1)<|(zY)<|(zC)<|(zK (db _) (hfl:=.inr zr))<|(cM @ao.eq_1)<|kn [.cell 6 46,.tmp 7] (hq:=by rw[show aR c ps e=([],5) by simp[aR,h1,h2,hM,hg,ho1,ho2,f1]];rfl)
   have f2:=f1
   refine(aB (bm f1 f2))<|(lD)<|(zC) ?_
   have hF:=kP c p.kind hc.len
   obtain⟨kd,b,hq,hkd⟩:∃(kd:aM) (b:Bool),jf ar aM.zero (dF c p.kind)=.cx [.ag (ar kd),an b]/\(dF c p.kind).getD aM.zero=kd:=by
    cases dF c p.kind with
    | none=>exact⟨aM.zero,false,rfl,rfl⟩
    | some q=>exact⟨q,true,rfl,rfl⟩
   rw[hq] at hF
   refine(zK hF (hfl:=.inr zr))<|(cM @ar.eq_1)<|(zV)<|zA [(3,.ip [ao 3 c ar]),(4,.ip [ao 14 ps ae]),(5,.ip [ab e.op,ab e.day,ah e.part,ah e.kind,ah e.aT,ah e.slot,ah e.key,ah e.value,ab e.u1,ab e.u2,ab e.u3,ab e.u4,ab e.u5,ab e.u6]),(6,.ptr 3 0),(7,ab 0),(9,.fn 109 [] [.ip [ao 14 ps ae]]),(10,.fn 112 [] []),(11,.ptr 5 0),(15,.ptr 6 0),(17,.fn 114 [] [.ip [ao 14 ps ae]]),(18,.ptr 7 0),(123,ab e.op)] [.gone,.gone,.gone,.cells [.a (.slice none 0 0 (some 0))],.gone,.cells [ah p.name,ah p.kind,ah p.aT,ah p.slot,ab p.made,ab p.since,an false,ao 2 p.props aI,ab p.l1,ab p.l2,ab p.l3,ab p.l4,ab p.l5,ab p.l6],.cells [ah p.name,ah p.kind,ah p.aT,ah p.slot,ab p.made,ab p.since,an false,ao 2 p.props aI,ab p.l1,ab p.l2,ab p.l3,ab p.l4,ab p.l5,ab p.l6],.cells [ah kd.name,an kd.vehicle,ao 3 kd.bN bJ]] (cg @ae.eq_1)<|(zB) ?_
   refine(aB (wd ho2))<|(zN) ?_
   by_cases ho3:e.op=3
   ·refine(aB (wl ho3))<|(zY) ?_
    by_cases g3:p.aT=[]
    ·exact(aB (wl g3))<|(zY)<|(zC)<|(zK (db _) (hfl:=.inr zr))<|(cM @ao.eq_1)<|kn [.cell 6 46,.tmp 7] (hq:=by rw[show aR c ps e=([],5) by simp[aR,h1,h2,hM,hg,ho1,ho2,f1,jg,hkd,ho3,g3]];rfl)
    refine(aB (wd g3))<|(lD) ?_
    (try change aE _ _ _ _ _)
    obtain⟨R,hR⟩:∃R,R=Proofs.cy ps (z7 p):=⟨_,rfl⟩;have hnext:=fW ps hlen ho (z7 p);rw[<-hR] at hnext;simp only[dX,f1,xf,z7,lI,qn,qM] at hnext
    exact(zC)<|(zK hnext (hfl:=.inr zw))<|(cM (bm @ku.eq_1 @ao.eq_1))<|kn [.cell 6 46,.tmp 7] (hq:=by rw[show aR c ps e=(R,0) by rw[hR];simp[aR,h1,h2,hM,hg,ho1,ho2,f1,jg,hkd,ho3,g3]];rfl)
   refine(aB (wd ho3))<|(zN) ?_
   by_cases ho4:e.op=4
   ·refine(aB (wl ho4))<|(zY) ?_
    cases g1:kd.vehicle
    ·exact(aB g1)<|(zY)<|(zC)<|(zK (db _) (hfl:=.inr zr))<|(cM @ao.eq_1)<|kn [.cell 6 46,.tmp 7] (hq:=by rw[show aR c ps e=([],4) by simp[aR,h1,h2,hM,hg,ho1,ho2,f1,jg,hkd,ho3,ho4,g1]];rfl)
    refine(aB g1)<|(zN) ?_
    (try change aE _ _ _ _ _)
    obtain⟨R,hR⟩:∃R,R=Proofs.cy ps p:=⟨_,rfl⟩;have hnext:=fW ps hlen ho p;rw[<-hR] at hnext;simp only[dX,f1,xf,z7,lI,qn,qM] at hnext
    exact(zC)<|(zK hnext (hfl:=.inr zw))<|(cM (bm @ku.eq_1 @ao.eq_1))<|kn [.cell 6 46,.tmp 7] (hq:=by rw[show aR c ps e=(R,0) by rw[hR];simp[aR,h1,h2,hM,hg,ho1,ho2,f1,jg,hkd,ho3,ho4,g1]];rfl)
   refine(aB (wd ho4))<|(zN) ?_
   by_cases ho5:e.op=5
   ·refine(aB (wl ho5))<|(zY)<|(aB @fp) ?_
    (try change aE _ _ _ _ _)
    obtain⟨R,hR⟩:∃R,R=Proofs.cy ps (lI p e):=⟨_,rfl⟩;have hnext:=fW ps hlen ho (lI p e);rw[<-hR] at hnext;simp only[dX,f1,xf,z7,lI,qn,qM] at hnext
    exact(zC)<|(zK hnext (hfl:=.inr zw))<|(cM (bm @ku.eq_1 @ao.eq_1))<|kn [.cell 6 46,.tmp 7] (hq:=by rw[show aR c ps e=(R,0) by rw[hR];simp[aR,h1,h2,hM,hg,ho1,ho2,f1,jg,hkd,ho3,ho4,ho5]];rfl)
   refine(aB (wd ho5))<|(zN) ?_
   by_cases ho6:e.op=6
   ·refine(aB (wl ho6))<|(zY) ?_
    have hpp:p∈ps:=by
     unfold pO at hg;split at hg
     ·exact aS hg
     ·cases hg
    have hpl:p.props.length<=60/\eu (p.props.map bC.key)=true:=JV h1 hpp;have hput:=EG p.props i4 ⟨e.key,e.value⟩ (g:=119) (cap:=[]) rfl Bu hpl.2;rw[pJ] at hput
    refine(zC)<|(zK hput (hfl:=.inr zr))<|(zR) ?_
    by_cases g3:60<((Proofs.gI p.props ⟨e.key,e.value⟩).length:Int)
    ·exact(aB (wl g3))<|(zY)<|(zC)<|(zK (db _) (hfl:=.inr zr))<|(cM @ao.eq_1)<|kn [.cell 6 46,.tmp 7] (hq:=by rw[show aR c ps e=([],7) by simp[aR,h1,h2,hM,hg,ho1,ho2,f1,jg,hkd,ho3,ho4,ho5,ho6,g3]];rfl)
    refine(aB (wd g3))<|(zN) ?_
    (try change aE _ _ _ _ _)
    obtain⟨R,hR⟩:∃R,R=Proofs.cy ps (qn p e):=⟨_,rfl⟩;have hnext:=fW ps hlen ho (qn p e);rw[<-hR] at hnext;simp only[dX,f1,xf,z7,lI,qn,qM] at hnext
    exact(zC)<|(zK hnext (hfl:=.inr zw))<|(cM (bm @ku.eq_1 @ao.eq_1))<|kn [.cell 6 46,.tmp 7] (hq:=by rw[show aR c ps e=(R,0) by rw[hR];simp[aR,h1,h2,hM,hg,ho1,ho2,f1,jg,hkd,ho3,ho4,ho5,ho6,g3]];rfl)
   refine(aB (wd ho6))<|(zN) ?_
   by_cases ho7:e.op=7
   ·refine(aB (wl ho7))<|(zY) ?_
    by_cases g3:p.aT=[];rotate_left
    ·exact(aB (wd g3))<|(zY)<|(zC)<|(zK (db _) (hfl:=.inr zr))<|(cM @ao.eq_1)<|kn [.cell 6 46,.tmp 7] (hq:=by rw[show aR c ps e=([],5) by simp[aR,h1,h2,hM,hg,ho1,ho2,f1,jg,hkd,ho3,ho4,ho5,ho6,ho7,g3]];rfl)
    refine(eQ (wl g3)) ?_;have hho:=uH ps hlen1 (λq=>decide (q.aT=p.name)) (g:=120) (cap:=[.ip (ae p)]) rfl (λq _=>He p q);rw[dX,f1] at hho;refine(zK hho (hwk:=zw)) ?_;cases g4:ps.any λq=>decide (q.aT=p.name);rotate_left
    ·exact(zR)<|(zY)<|(zC)<|(zK (db _) (hfl:=.inr zr))<|(cM @ao.eq_1)<|kn [.cell 6 46,.tmp 7] (hq:=by rw[show aR c ps e=([],5) by simp[aR,h1,h2,hM,hg,ho1,ho2,f1,jg,hkd,ho3,ho4,ho5,ho6,ho7,g3,g4,-b6]];rfl)
    refine(zR)<|(lD) ?_
    (try change aE _ _ _ _ _)
    obtain⟨R,hR⟩:∃R,R=Proofs.cy ps (qM p):=⟨_,rfl⟩;have hnext:=fW ps hlen ho (qM p);rw[<-hR] at hnext;simp only[dX,f1,xf,z7,lI,qn,qM] at hnext
    exact(zC)<|(zK hnext (hfl:=.inr zw))<|(cM (bm @ku.eq_1 @ao.eq_1))<|kn [.cell 6 46,.tmp 7] (hq:=by rw[show aR c ps e=(R,0) by rw[hR];simp[aR,h1,h2,hM,hg,ho1,ho2,f1,jg,hkd,ho3,ho4,ho5,ho6,ho7,g3,g4,-b6,-dC]];rfl)
   refine(aB (wd ho7))<|(zN) ?_
   (try change aE _ _ _ _ _)
   obtain⟨R,hR⟩:∃R,R=Proofs.cy ps p:=⟨_,rfl⟩;have hnext:=fW ps hlen ho p;rw[<-hR] at hnext;simp only[dX,f1,xf,z7,lI,qn,qM] at hnext
   exact(zC)<|(zK hnext (hfl:=.inr zw))<|(cM (bm @ku.eq_1 @ao.eq_1))<|kn [.cell 6 46,.tmp 7] (hq:=by rw[show aR c ps e=(R,0) by rw[hR];simp[aR,h1,h2,hM,hg,ho1,ho2,f1,jg,hkd,ho3,ho4,ho5,ho6,ho7]];rfl)
def sW{a b:List (List Nat)}(h:a.Perm b):eh a=eh b:=by
 have h1:(eh a).Pairwise λa b=>xh a b=true:=GY a;have h2:(eh b).Pairwise λa b=>xh a b=true:=GY b;have hp:(eh a).Perm (eh b):=((qo a).trans h).trans (qo b).symm;exact Perm.eq_of_pairwise (λa b _ _ h1 h2=>F8 h1 h2) h1 h2 hp
def HX(ps:List ak)(m:List (List Nat×Int)):Prop:=(∀e∈m,∃(k:Nat) (x:ak),e.2=(k:Int)/\ps[k]?=some x/\x.name=e.1)/\(m.map (·.1)).Nodup
def lu{K U:Type}[DecidableEq K]{k:K}{l:List (K×U)}:dA k l=true↔k∈l.map (·.1):=by
 unfold dA;simp only[b6,wp,mem_map];exact⟨λ⟨e,h1,h2⟩=>⟨e,h1,h2.symm⟩,λ⟨e,h1,h2⟩=>⟨e,h1,h2.symm⟩⟩
def Fc{ps:List ak}:∀{l:List ak} {i:Nat} {m:List (List Nat×Int)},ps.drop i=l->HX ps m->HX ps (nv i m l)
 | [],_,_,_,h=>h
 | p::r,i,m,hd,h=>by
  rw[nv]
  have hp:ps[i]?=some p:=by
   have:=rc (λl=>l[0]?) hd;simpa using this
  have hd2:ps.drop (i+1)=r:=by
   have:=rc (List.drop 1) hd;simpa using this
  refine Fc hd2 ?_
  cases hh:dA p.name m with
  | true=>exact h
  | false=>
   simp only[Bool.false_eq_true,if_false];rw[pc hh];refine⟨λe he=>?_,?_⟩
   ·rcases List.mem_append.1 he with he | he
    ·exact h.1 e he
    ·rw[t6 he];exact⟨i,p,rfl,hp,rfl⟩
   ·rw[b7,List.nodup_append];refine⟨h.2,by simp,λa ha b hb=>?_⟩;simp only[bF,List.map_nil,List.mem_singleton] at hb;subst hb;intro e;subst e;rw[lu.2 ha] at hh;cases hh
def vu(ps:List ak)(i:Int):List Nat:=match ps[i.toNat]? with
 | some p=>p.aT
 | none=>[]
abbrev iU:=List (List Nat×List Nat)
def jx(ps:List ak)(hd:List (List Nat×Int)):iU:=hd.filterMap λe=>if vu ps e.2=[] then none else some (e.1,vu ps e.2)
def Ad{ps:List ak}{hd:List (List Nat×Int)}{k:List Nat}(h:k∈(jx ps hd).map (·.1)):k∈hd.map (·.1):=by
 obtain⟨e,he,rfl⟩:=mem_map.1 h;obtain⟨e',he',h2⟩:=List.mem_filterMap.1 he;split at h2
 ·cases h2
 ·cases h2;exact dc he'
def jy{ps:List ak}:∀{hd:List (List Nat×Int)},(hd.map (·.1)).Nodup->((jx ps hd).map (·.1)).Nodup
 | [],_=>List.nodup_nil
 | e::hd,h=>by
  rw[bF,d8] at h;unfold jx;rw[List.filterMap_cons];split
  ·exact jy h.2
  ·rename_i b hb;split at hb
   ·cases hb
   ·cases hb;rw[bF,d8];exact⟨λhm=>h.1 (Ad hm),jy h.2⟩
def It{U:Type}{l:List (List Nat×U)}{pos:List Nat}{j:Nat}{e:List Nat×U}(hn:(l.map (·.1)).Nodup)(he:l[j]?=some e)(hj:j∉pos):e.1∉(bj l pos).map (·.1):=by
 intro hm;obtain⟨e',he',h2⟩:=mem_map.1 hm;obtain⟨i,hi,h3⟩:=List.mem_filterMap.1 he'
 have h4:(l.map (·.1))[i]?=some e.1:=by rw[a7,h3];exact rc some h2
 have h5:(l.map (·.1))[j]?=some e.1:=by rw[a7,he];rfl
 exact hj ((List.getElem?_inj (bo h4) hn).1 (h4.trans h5.symm)▸hi)
def du:Nat->iU->List (List Nat)->List (List Nat)
 | 0,_,_=>[]
 | n+1,r,ls=>if ls=[] then [] else ((r.filter λe=>ls.contains e.2).map (·.1))++du n (r.filter λe=>!ls.contains e.2) ((r.filter λe=>ls.contains e.2).map (·.1))
def GM(ps:List ak)(part:List Nat):iU:=jM part (jx ps (nv 0 [] ps))
def eb(ps:List ak)(part:List Nat):List (List Nat):=if dA part (nv 0 [] ps)=true then eh (du (ps.length+2) (GM ps part) [part]) else []
def ox:∀(n:Nat) {r r':iU} {ls ls':List (List Nat)},r.Perm r'->(∀x,ls.contains x=ls'.contains x)->(ls=[]↔ls'=[])->(du n r ls).Perm (du n r' ls')
 | 0,_,_,_,_,_,_,_=>Perm.refl _
 | n+1,r,r',ls,ls',h1,h2,h3=>by
  rw[du,du];by_cases h:ls=[]
  ·rw[ut h,ut (h3.1 h)]
  ·rw[v6 h,v6 (λe=>h (h3.2 e))];have e1:(λe:List Nat×List Nat=>ls.contains e.2)=λe=>ls'.contains e.2:=funext λe=>h2 _
   have e2:(λe:List Nat×List Nat=>!ls.contains e.2)=λe=>!ls'.contains e.2:=funext λe=>by rw[h2]
   rw[e1,e2];have p1:=(h1.filter λe=>ls'.contains e.2).map (·.1);have p2:=h1.filter λe=>!ls'.contains e.2;refine p1.append (ox n p2 (λx=>?_) ⟨λe=>?_,λe=>?_⟩)
   ·rw[Bool.eq_iff_iff,c0,c0];exact p1.mem_iff
   ·rw[e] at p1;exact p1.nil_eq.symm
   ·rw[e] at p1;exact p1.eq_nil
def e8(l:List (List Nat)):SO:=if l=[] then .gone else .cells (l.flatMap (aD ah))
def fK{l:List (List Nat)}(h:¬l=[]):e8 l=.cells (l.flatMap (aD ah)):=v6 h
def gw:e8 []=.gone:=rfl
def fE(o:Nat)(l:List (List Nat)):bW o (e8 l)=e8 l:=by
 unfold e8;split
 ·rfl
 ·rw[bW];congr 1;exact bV (aC (λ_=>rfl) l)
def eN(r:Nat->Nat)(l:List (List Nat)):qa r (e8 l)=e8 l:=by
 unfold e8;split
 ·rfl
 ·rw[KS];congr 1;exact bl (aC (λ_=>rfl) l)
def JH{S:List SO}{l:iU}(s u:List Nat)(hS:S[o]?=some (bG AV.str ah l)):iF prog S 123 (.map o) (.a (.str s)) (.a (.str u))=some (S.set o (bG AV.str ah (cC s u l))):=
 IW (uv:=ah) (kt:=9) (et:=9) (by simp only[aF]) mr hS rfl u
def AE{S:List SO}{l:iU}(s:List Nat)(hS:S[o]?=some (bG AV.str ah l)):LF prog S 123 (.map o) (.a (.str s))=some (S.set o (bG AV.str ah (jM s l))):=
 T2 (uv:=ah) (k:=s) (kt:=9) (et:=9) (by simp only[aF]) mr hS rfl
def jU{n:Nat}{l:iU}:bW n (bG AV.str ah l)=bG AV.str ah l:=mD λ_=>ml _
end Go.Proofs
