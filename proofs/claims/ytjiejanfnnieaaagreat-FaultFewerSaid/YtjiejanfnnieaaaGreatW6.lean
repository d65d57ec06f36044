/- Lemmas of this claim, each with its conditions. -/
import Derived.Test.YtjiejanfnnieaaaGreatW5
import Derived.Test.YtjiejanfnnieaaaGreatW4
import Derived.Test.YtjiejanfnnieaaaGreatW2
import Derived.Shelf.SlGeneric
import Derived.Shelf.SortM.Plain
import Derived.Shelf.SortM.SortNone
import Derived.Ground.SlgmProg
import Derived.Test.YtjiejanfnnieaaaGreatProg
set_option linter.all false
set_option maxHeartbeats 8000000
open Go.Proofs.Tryz (prog func159 func199 func44 func45 func50 func56 isAgg66 isAgg9 sizeOf9)
open List (flatMap_cons append_nil Perm flatMap_nil nil_append all_eq_true mem_map take_zero cons_append foldl_nil range)
open Nat (ble)
open Nat renaming le_refl -> aa, min_eq_left -> ap, reduceEqDiff -> a6, zero_mul -> bh, zero_le -> bk, pos_of_ne_zero -> bw, lt_succ_self -> b8, sub_zero -> b9, not_lt_zero -> cd, succ_mul -> ch, add_comm -> ct, add_zero -> cv, min_def -> c6, sub_self -> d0, lt_irrefl -> d9, min_self -> ef, succ_pos -> el, zero_add -> em
open Bool renaming and_eq_true -> ac, not_eq_true' -> bd
open List renaming length_take -> ad, take_append_of_le_length -> af, take_of_length_le -> aj, length_drop -> al, length_map -> am, mem_of_getElem? -> aL, drop_of_length_le -> aS, append_assoc -> aV, getElem?_map -> aW, length_set -> a7, take_length -> a8, flatMap_append -> ba, set_eq_take_append_cons_drop -> bb, replicate -> bc, getElem?_cons_succ -> be, getElem?_eq_none -> bs, length_replicate -> bt, map_cons -> bv, any_eq_true -> bB, map_append -> b5, drop_append_of_le_length -> b6, sizeOf_lt_of_mem -> b7, drop_zero -> cc, all_append -> cg, getElem?_drop -> ci, foldl_append -> ck, getElem?_cons_zero -> cl, take_take -> cn, drop_length -> co, contains_iff_mem -> cp, mem_map_of_mem -> c4, takeWhile_cons -> c5, getElem?_take -> dd, all_cons -> dl, any_eq_false -> ds, ext_getElem? -> dt, getElem?_set -> dv, take_add_one -> dE, take_append -> d3, nodup_cons -> d6, drop_drop -> d8
open And renaming intro -> bi
open Int renaming le_refl -> ce
open Array renaming getElem?_modify -> c0
open Go.Proofs.Tryz renaming func355 -> dc, underlying66 -> d2, underlying9 -> d4, zeroValue66 -> d5, zeroValue9 -> d7, sizeOf66 -> er
namespace Go.Proofs
open Go.Shelf
def wL:Go.Shelf.Ren:=⟨λ| 6=>56 | 8=>127 | 9=>126 | 19=>212 | 20=>213 | 21=>203 | 22=>204 | 23=>205 | 24=>206 | 25=>207 | 26=>208 | 27=>209 | 28=>210 | 29=>211 | 36=>269 | 31=>270 | 32=>271 | 37=>272 | 38=>273 | 39=>159 | 41=>311 | n=>n,λ| 27=>66 | 29=>9 | 3=>3 | 32=>210 | 26=>66 | 0=>0 | 44=>281 | 46=>283 | 4=>4 | 36=>274 | 35=>273 | 41=>122 | 5=>5 | 9=>9 | 53=>318 | 57=>322 | 63=>344 | 64=>345 | n=>n,λ| n=>n⟩
def wb:Go.Proofs.SlLaysM.n6 prog wL:={
 mixed:=by kernel_rfl
 f6:=⟨Tryz.f56.name,by decide,func56.trans (rc some zW)⟩
 f8:=Tryz.func127.trans (rc some zW)
 f9:=⟨Tryz.f126.name,by decide,Tryz.func126.trans (rc some zW)⟩
 f19:=Tryz.func212.trans (rc some zW)
 f20:=Tryz.func213.trans (rc some zW)
 f21:=⟨Tryz.f203.name,by decide,Tryz.func203.trans (rc some zW)⟩
 f22:=⟨Tryz.f204.name,by decide,Tryz.func204.trans (rc some zW)⟩
 f23:=⟨Tryz.f205.name,by decide,Tryz.func205.trans (rc some zW)⟩
 f24:=⟨Tryz.f206.name,by decide,Tryz.func206.trans (rc some zW)⟩
 f25:=⟨Tryz.f207.name,by decide,Tryz.func207.trans (rc some zW)⟩
 f26:=⟨Tryz.f208.name,by decide,Tryz.func208.trans (rc some zW)⟩
 f27:=⟨Tryz.f209.name,by decide,Tryz.func209.trans (rc some zW)⟩
 f28:=⟨Tryz.f210.name,by decide,Tryz.func210.trans (rc some zW)⟩
 f29:=⟨Tryz.f211.name,by decide,Tryz.func211.trans (rc some zW)⟩
 f31:=Tryz.func270.trans (rc some zW)
 f32:=Tryz.func271.trans (rc some zW)
 f36:=⟨Tryz.f269.name,by decide,Tryz.func269.trans (rc some zW)⟩
 f37:=⟨Tryz.f272.name,by decide,Tryz.func272.trans (rc some zW)⟩
 f38:=⟨Tryz.f273.name,by decide,Tryz.func273.trans (rc some zW)⟩
 f39:=⟨Tryz.f159.name,by decide,func159.trans (rc some zW)⟩
 f41:=⟨Tryz.f311.name,by decide,Tryz.func311.trans (rc some zW)⟩
 t0:=Tryz.underlying0
 a0:=Tryz.isAgg0
 z0:=Tryz.sizeOf0
 v0:=Tryz.zeroValue0
 t3:=Tryz.underlying3
 a3:=Tryz.isAgg3
 z3:=Tryz.sizeOf3
 v3:=Tryz.zeroValue3
 t4:=Tryz.underlying4
 a4:=Tryz.isAgg4
 z4:=Tryz.sizeOf4
 v4:=Tryz.zeroValue4
 t5:=Tryz.underlying5
 a5:=Tryz.isAgg5
 z5:=Tryz.sizeOf5
 v5:=Tryz.zeroValue5
 t9:=d4
 a9:=isAgg9
 z9:=sizeOf9
 v9:=d7
 t26:=d2
 a26:=isAgg66
 z26:=er
 v26:=d5
 t27:=d2
 a27:=isAgg66
 z27:=er
 v27:=d5
 t29:=d4
 a29:=isAgg9
 z29:=sizeOf9
 v29:=d7
 t32:=Tryz.underlying210
 a32:=Tryz.isAgg210
 z32:=Tryz.sizeOf210
 v32:=Tryz.zeroValue210
 t35:=Tryz.underlying273
 a35:=Tryz.isAgg273
 z35:=Tryz.sizeOf273
 v35:=Tryz.zeroValue273
 t36:=Tryz.underlying274
 a36:=Tryz.isAgg274
 z36:=Tryz.sizeOf274
 v36:=Tryz.zeroValue274
 t41:=Tryz.underlying122
 a41:=Tryz.isAgg122
 z41:=Tryz.sizeOf122
 v41:=Tryz.zeroValue122
 t44:=Tryz.underlying281
 a44:=Tryz.isAgg281
 z44:=Tryz.sizeOf281
 v44:=Tryz.zeroValue281
 t46:=Tryz.underlying283
 a46:=Tryz.isAgg283
 z46:=Tryz.sizeOf283
 v46:=Tryz.zeroValue283
 t53:=Tryz.underlying318
 a53:=Tryz.isAgg318
 z53:=Tryz.sizeOf318
 v53:=Tryz.zeroValue318
 t57:=Tryz.underlying322
 a57:=Tryz.isAgg322
 z57:=Tryz.sizeOf322
 v57:=Tryz.zeroValue322
 t63:=Tryz.underlying344
 a63:=Tryz.isAgg344
 z63:=Tryz.sizeOf344
 v63:=Tryz.zeroValue344
 t64:=Tryz.underlying345
 a64:=Tryz.isAgg345
 z64:=Tryz.sizeOf345
 v64:=Tryz.zeroValue345 }
open Go.Ev Go.RowKit Go.Shelf Go.Lib Go.Sort
set_option maxRecDepth 100000
def CP(x y:List UInt8):decide (x<=y)=!gB (y.map (·.toNat)) (x.map (·.toNat)):=by
 rw[oH,bytesLess_eq];by_cases h:y<x
 ·have:¬x<=y:=λh2=>h2 h;simp[h,this]
 ·have:x<=y:=h;simp[h,this]
def Va:Option Value->ByteArray
 | some (.string s)=>s
 | _=>ByteArray.empty
def Hf(ss:List (List UInt8)):List (List Nat):=ss.map λs=>s.map (·.toNat)
def wa(ks:List (List Nat))(v:AV)(Z:Nat)(h:Ev.H)(hout:Mf Z h v 1 (ks.map pZ))(hlen:ks.length<=1000000):
 dZ prog (.func 56) [v] h (λr h'=>r=.cA []/\∃ks':List (List Nat),ks'.Perm ks/\qS ks'/\Mf Z h' v 1 (ks'.map pZ)/\Over Z h h'/\∀id n e c,v=.slice (some (id,0)) n e c->h.store id 0 (ks'.map pZ).flatten=some h'):=by
 intro σ w args' hv hr;obtain⟨x,rfl,hx⟩:=SG hv;rw[ec dC func56 ii]
 rcases hout.2 with⟨e,e2⟩ | ⟨id,cf,fx,fy,hne,e2,ho,hfx,hxy,z1,z2,z3,z4,l1,l2,l3,l4⟩
 ·subst e2
  have hts:ks=[]:=by simpa using e
  subst hts
  cases hx with
  | gS hl=>
   refine Calls.mono (AnyM.slices_Sort_string_none wb none 0 w) λe w' ⟨he,hw⟩=>?_;subst hw;exact⟨_,he,.cA [],h,⟨rfl,[],.refl _,List.Pairwise.nil,hout,Over.refl _ _,λ_ _ _ _ he=>by cases he⟩,σ,V.lH,hr,.refl _ _ _⟩
 ·subst e2
  have hpos:0<ks.length:=by
   cases ks with
   | nil=>exact un rfl hne
   | cons=>exact el _
  rw[am] at hx
  cases hx with
  | @slice _ _ _ _ _ a p c hs hl hrr hcc ha=>
  have ha:a=⟨p.b,p.d+0,none⟩:=ha.resolve_right i4;subst ha;obtain⟨q,carr,et,hq,hb,hsz,hlen',hVc⟩:=hr.cells ho;rw[hs] at hq;cases hq
  have hfl:(ks.map pZ).flatten.length=ks.length*1:=by
   have:=jB (s:=1) hout.1;rw[am] at this;exact this
  have hpl:=hr.lt ho hs
  let d:List (List UInt8):=(range ks.length).map λi=>(Va carr[p.d+i]?).data.toList
  have hdl0:d.length=ks.length:=by simp[d]
  have hspec:∀i,i<ks.length->∃s:ByteArray,carr[p.d+i]?=some (.string s)/\ks[i]?=some (s.data.toList.map (·.toNat))/\d[i]?=some s.data.toList:=λi hi=>by
   have hki:ks[i]?=some ks[i]:=jp hi
   have hg:(ks.map pZ)[i]?=some (pZ ks[i]):=by rw[aW,hki];rfl
   have h0:=pk hout.1 hg (k:=0) i4;obtain⟨v0,g0,V0⟩:=hVc _ _ (h0.trans (show(pZ ks[i])[0]?=some (.str ks[i]) from rfl));rw[Nat.mul_one,cv] at g0;generalize hkk:ks[i]=kk at V0
   cases V0 with
   | @str _ s0 e0=>
    refine⟨s0,g0,by rw[hki,hkk,e0],?_⟩;show((range ks.length).map _)[i]?=_;rw[aW,List.getElem?_range hi,m6,g0];rfl
  have hH:Holds encStr w p.b (p.d+0) d.toArray:=by
   intro j hj
   have hj':j<ks.length:=by simpa [hdl0] using hj
   obtain⟨s,g1,g2,g3⟩:=hspec j hj';refine⟨?_,uR hb⟩;rw[cell_of hb,cv,g1];rw[getElem!_pos d.toArray j hj]
   have:d.toArray[j]=s.data.toList:=by
    have h1:=jp (l:=d) (i:=j) i4;rw[g3] at h1;simpa using(Option.some.inj h1).symm
   rw[this]
  have hmain:=AnyM.slices_Sort_string wb p.b (p.d+0) c d w hH hpl (by rw[hdl0];omega);rw[hdl0] at hmain;change Calls prog 56 _ _ _ at hmain;refine Calls.mono hmain ?_;rintro e w' ⟨rfl,n,os,rfl⟩;obtain⟨d',hd'⟩:∃d',d'=d.mergeSort λx y=>decide (x<=y):=⟨_,rfl⟩;rw[<-hd']
  have hp3:d'.Perm d:=by rw[hd'];exact List.mergeSort_perm _ _
  have hp1:d'.length=ks.length:=by rw[hp3.length_eq,hdl0]
  have hsorted:d'.Pairwise λx y=>decide (x<=y)=true:=by
   rw[hd'];refine List.pairwise_mergeSort ?_ ?_ d
   ·intro a b c h1 h2;rw[CP] at *;simp only[bd] at *;cases h:gB (c.map (·.toNat)) (a.map (·.toNat))
    ·rfl
    ·rcases lX (a.map (·.toNat)) (b.map (·.toNat)) with g | g | g
     ·have:=ig h g;rw[h2] at this;cases this
     ·rw[g,h2] at h;cases h
     ·rw[h1] at g;cases g
   ·intro a b;rw[CP,CP]
    rcases lX (a.map (·.toNat)) (b.map (·.toNat)) with g | g | g
    ·rw[rk g];rfl
    ·rw[g,ff];rfl
    ·rw[rk g];simp
  have hdl:Hf d=ks:=by
   apply dt;intro i;unfold Hf;by_cases hi:i<ks.length
   ·obtain⟨s,g1,g2,g3⟩:=hspec i hi;rw[aW,g3,g2];rfl
   ·rw[bs (by simp[hdl0];omega),bs i4]
  have hperm:(Hf d').Perm ks:=by rw[<-hdl];exact hp3.map _
  have hsx:qS (Hf d'):=by
   unfold qS Hf;rw[List.pairwise_map];refine hsorted.imp ?_;intro a b h1;rw[CP] at h1;simpa using h1
  have hlen2:(Hf d').length=ks.length:=by unfold Hf;rw[am,hp1]
  have hw3:=yT (Hf d')
  have hb1:(putRow encStr (Sort.ahead w n) p.b (p.d+0) d'.toArray).heap[p.b]?=some (.cells (putCells encStr (p.d+0) d'.toArray carr) et (0,0)):=by
   unfold putRow mapBlock;simp only[c0,if_true];rw[show(Sort.ahead w n).heap[p.b]?=some (.cells carr et (0,0)) from hb];rfl
  have hoth:∀b,b≠p.b->(putRow encStr (Sort.ahead w n) p.b (p.d+0) d'.toArray).heap[b]?=w.heap[b]?:=λb hbb=>by
   unfold putRow mapBlock;simp only[c0];rw[v6 (λe=>hbb e.symm)];rfl
  have hVn:∀(i:Nat) (a:AV),((Hf d').map pZ).flatten[i]?=some a->∃v,(putCells encStr (p.d+0) d'.toArray carr)[p.d+i]?=some v/\V σ a v:=by
   intro i a hia
   have hil:i<ks.length:=by
    have:=Nq hia;rw[jB hw3,am,hlen2] at this;omega
   have hj:i<d'.length:=by omega
   have hrow:((Hf d').map pZ)[i]?=some (pZ (d'[i].map (·.toNat))):=by
    unfold Hf;rw[aW,aW,jp hj];rfl
   have hat:=pk hw3 hrow (k:=0) i4;rw[Nat.mul_one,cv,hia] at hat
   have hcl:p.d+i<carr.size:=by omega
   have hput:(putCells encStr (p.d+0) d'.toArray carr)[p.d+i]?=some (encStr d'[i]):=by
    unfold putCells;rw[Array.getElem?_mapIdx,Array.getElem?_eq_getElem hcl,m6,ut ⟨by omega,by simp;omega⟩];rw[show p.d+i-(p.d+0)=i by omega,getElem!_pos d'.toArray i (by simpa using hj)];simp
   refine⟨_,hput,?_⟩;cases hat;exact .str rfl
  obtain⟨r1,r2⟩:=hr.rewrite ho hs (cs':=((Hf d').map pZ).flatten) (by rw[jB hw3,am,hlen2,hfl]) hb hb1 (by unfold putCells;rw[Array.size_mapIdx]) hVn hoth (by unfold putRow mapBlock;simp[Sort.ahead]) rfl rfl rfl
  have hbel:Below (putRow encStr (Sort.ahead w n) p.b (p.d+0) d'.toArray).heap.size (putRow encStr (Sort.ahead w n) p.b (p.d+0) d'.toArray) (grow (putRow encStr (Sort.ahead w n) p.b (p.d+0) d'.toArray) os):=
   ⟨rfl,rfl,rfl,by rw[size_grow];omega,λk hk=>by unfold grow;simp only;rw[Array.getElem?_append_left hk]⟩
  have hkeep:=sd r1 hbel;obtain⟨ao1,ao2⟩:=sa (id:=id) hfx z2 z3 z4
  have hne':(Hf d').map pZ≠[]:=by
   intro e;have:=rc List.length e;rw[am,hlen2] at this;simp at this;rw[this] at hpos;simp at hpos
  refine⟨_,rfl,.cA [],_,⟨rfl,Hf d',hperm,hsx,⟨hw3,.inr ⟨id,cf,id,id,hne',?_,?_,?_,.inl rfl,z1,z1,z1,z4,?_,?_,?_,?_⟩⟩,?_,?_⟩,σ,V.lH,hkeep.1,r2.trans hkeep.2⟩
  ·rw[am,am,hlen2]
  ·exact c8 _ _ _
  ·exact A9 hfx
  ·show id<(h.alone id cf).next;rw[ao2];exact l1
  ·show id<(h.alone id cf).next;rw[ao2];exact l1
  ·show id<(h.alone id cf).next;rw[ao2];exact l1
  ·show cf<(h.alone id cf).next;rw[ao2];exact l4
  ·refine ao1.trans ⟨aa _,λj hj=>bp _ _ i4,λ_ _=>rfl,λhl=>va i4⟩
  ·intro id2 n2 e2 c2 he;cases he
   have hfl2:((Hf d').map pZ).flatten.length=(ks.map pZ).flatten.length:=by rw[jB hw3,am,hlen2,hfl]
   have hone:((Hf d').map pZ).flatten.all jR=true:=by
    rw[all_eq_true];intro x hx;rw[List.mem_flatten] at hx;obtain⟨r,hr1,hr2⟩:=hx;obtain⟨k,_,rfl⟩:=mem_map.1 hr1;rw[t6 hr2];rfl
   unfold H.store;rw[ho];simp only;rw[hfl2,em,fc (aa _),hone,Bool.and_self,an,take_zero,nil_append,aS (aa _),append_nil]
open Go.Ev
def wz(a b:List Nat):Bool:=!gB b a
def Lb(a b c:List Nat)(h1:wz a b=true)(h2:wz b c=true):wz a c=true:=by
 unfold wz at *;simp only[bd] at *;cases h:gB c a
 ·rfl
 ·rcases lX a b with g | g | g
  ·have:=ig h g;rw[h2] at this;cases this
  ·rw[g,h2] at h;cases h
  ·rw[h1] at g;cases g
def La(a b:List Nat):(wz a b||wz b a)=true:=by
 unfold wz
 rcases lX a b with g | g | g
 ·rw[rk g];rfl
 ·rw[g,ff];rfl
 ·rw[rk g];simp
def Fp{a b:List Nat}(h1:wz a b=true)(h2:wz b a=true):a=b:=by
 unfold wz at h1 h2;simp only[bd] at h1 h2
 rcases lX a b with g | g | g
 ·rw[h2] at g;cases g
 ·exact g
 ·rw[h1] at g;cases g
def K8(x:List Nat):List (List Nat)->List (List Nat)
 | []=>[x]
 | y::l=>cond (wz x y) (x::y::l) (y::K8 x l)
def ee:List (List Nat)->List (List Nat)
 | []=>[]
 | x::l=>K8 x (ee l)
def RL(x:List Nat):∀l,(K8 x l).Perm (x::l)
 | []=>.refl _
 | y::l=>by
  rw[K8];cases wz x y
  ·exact((RL x l).cons y).trans (.swap x y l)
  ·exact .refl _
def rU:∀l,(ee l).Perm l
 | []=>.refl _
 | x::l=>(RL x _).trans ((rU l).cons x)
def SU(x:List Nat):∀l,l.Pairwise (λa b=>wz a b=true)->(K8 x l).Pairwise λa b=>wz a b=true
 | [],_=>List.pairwise_singleton ..
 | y::l,h=>by
  obtain⟨h1,h2⟩:=List.pairwise_cons.1 h;rw[K8];cases g:wz x y
  ·refine List.pairwise_cons.2 ⟨λz hz=>?_,SU x l h2⟩
   rcases t7 ((RL x l).mem_iff.1 hz) with rfl | hz
   ·have:=La z y;rw[g] at this;simpa using this
   ·exact h1 z hz
  ·refine List.pairwise_cons.2 ⟨λz hz=>?_,h⟩
   rcases t7 hz with rfl | hz
   ·exact g
   ·exact Lb _ _ _ g (h1 z hz)
def Ge:∀l,(ee l).Pairwise λa b=>wz a b=true
 | []=>.nil
 | x::l=>SU x _ (Ge l)
def y9{l ks:List (List Nat)}(hp:ks.Perm l)(hs:qS ks):ks=ee l:=by
 have h2:(ee l).Pairwise λa b=>wz a b=true:=Ge l
 have h1:ks.Pairwise λa b=>wz a b=true:=by
  unfold qS at hs;refine hs.imp ?_;intro a b h;unfold wz;rw[h];rfl
 have hq:ks.Perm (ee l):=hp.trans (rU l).symm;exact Perm.eq_of_pairwise (λa b _ _ h1 h2=>Fp h1 h2) h1 h2 hq
def Kk(l:List (List Nat)):(l.map pZ).flatten=l.map AV.str:=by
 induction l with
 | nil=>rfl
 | cons a l ih=>rw[bv,List.flatten_cons,ih];rfl
def yg:∀l:List (List Nat),iO (l.flatMap (aG ah))=some (l.map AV.str)
 | []=>rfl
 | a::l=>by
  show iO (ah a::l.flatMap (aG ah))=_;rw[iO,cU,m7,yg l];rfl
def Ae(l:List (List Nat))(hlen:l.length<=1000000)(hne:l≠[]):SC prog 56 [.buf 0 l.length 1 none] [.cells (l.flatMap (aG ah))] [] (λr S'=>r=.cA []/\S'=[.cells ((ee l).flatMap (aG ah))]):=by
 have hl2:(ee l).length=l.length:=(rU l).length_eq;refine SC.row (by rw[CQ,CQ,hl2]) (λθ ρ xs hx=>ma hx (NS _)) ?_;intro E θ ρ h avs asx cf hl hR hA ho hV ⟨⟨x,y⟩,hf,hxy,b1,b2,b3,b4⟩;have has:=oq hV (yg l);subst has;rw[aN] at hA;obtain⟨a,r,rfl,hA1,hA2⟩:=hA;rw[bl] at hA2;subst hA2;rw[VS] at hA1;subst hA1
 have hout:Mf 0 h (.slice (some ((θ 0).id,0)) l.length 1 none) 1 (l.map pZ):=by
  refine⟨yT l,.inr ⟨(θ 0).id,cf,x,y,by simpa using hne,by rw[am],by rw[Kk];exact ho,hf,hxy,bk _,bk _,bk _,bk _,b4,b1,b2,b3⟩⟩
 refine(wa l _ 0 h hout hlen).mono ?_;rintro v h' ⟨rfl,ks',hp,hs,_,_,hst⟩;have:=y9 hp hs;subst this;refine⟨by rw[VS];exact⟨[],rfl,by rw[bl]⟩,_,?_,hst _ _ _ _ rfl⟩;rw[Kk];exact tg (yg _)
def rN(l:List (List Nat)):List (List Nat):=l.foldl (λacc x=>if acc.getLast?=some x then acc else acc++[x]) []
def Hw(l:List (List Nat))(x:List Nat):rN (l++[x])=if (rN l).getLast?=some x then rN l else rN l++[x]:=by
 unfold rN;rw[ck];rfl
variable{α:Type}{l:List α}{i:Nat}
def c9{x:α}(h:l[i]?=some x):l.take (i+1)=l.take i++[x]:=by
 rw[dE,h];rfl
def cx(o e n:Nat):SV:=if n=0 then aR else .buf o n e none
def OX(o:Nat)(l:List α)(enc:α->List SV):List SO:=if l=[] then [] else bc o .gone++[.cells (l.flatMap enc)]
def lA(o e:Nat):cx o e 0=aR:=rfl
def RT(o e n:Nat):cx o e (n+1)=.buf o (n+1) e none:=rfl
variable{o:Nat}
def en{e n:Nat}(h:¬n=0):cx o e n=.buf o n e none:=v6 h
def PZ{α:Type}(o:Nat)(enc:α->List SV):OX o [] enc=[]:=rfl
variable{enc:α->List SV}
def NJ(h:¬l=[]):OX o l enc=bc o .gone++[.cells (l.flatMap enc)]:=v6 h
def NK(o:Nat)(l:List α)(x:α)(enc:α->List SV):OX o (l++[x]) enc=bc o .gone++[.cells ((l++[x]).flatMap enc)]:=v6 ge
def bg{α:Type}{enc:α->List SV}{e:Nat}(he:∀x,(enc x).length=e):∀l:List α,(l.flatMap enc).length=l.length*e
 | []=>by simp
 | a::l=>by rw[flatMap_cons,li,he,bg he l,i7,ch,ct]
def eD{e:Nat}(he:∀x,(enc x).length=e)(l:List α):(l.flatMap enc).take (l.length*e)=l.flatMap enc:=
 aj (by rw[bg he];exact aa _)
def mb{e:Nat}(he:∀x,(enc x).length=e)(hg:∀x,bV (enc x)=true)(o:Nat)(l:List α)(x:α):((l.flatMap enc).take (l.length*e)++enc x).map (aO o)=(l++[x]).flatMap enc:=by
 rw[eD he,b5,bU (hg x),bU (aD hg l),ba];simp
def bF(hg:∀x,bV (enc x)=true)(o:Nat)(l:List α):(l.flatMap enc).map (aO o)=l.flatMap enc:=bU (aD hg l)
def QJ{e:Nat}(he:∀x,(enc x).length=e)(hg:∀x,bV (enc x)=true)(l:List α):Wk (OX o l enc) (cx o e l.length) (ak e l enc):=by
 by_cases h:l=[]
 ·subst h;exact Wk.nil _
 ·have h0:¬l.length=0:=λe=>h (t8 e);rw[en h0,NJ h];refine Wk.buf (cs:=l.flatMap enc) ?_ ?_ ?_
  ·rw[List.getElem?_append_right (by rw[bt];exact aa _),bt,d0];rfl
  ·rw[eD he];exact cC.refl (aD hg l)
  ·rw[bg he];exact aa _
def uq:PC prog 56 [aR] (·=.a (.cA [])):=by
 intro ρ h avs _ hA;rw[dQ] at hA;obtain⟨a,r,rfl,hA1,hA2⟩:=hA;rw[eU] at hA2;subst hA2;rw[GS] at hA1;subst hA1;refine(wa [] _ h.next h ⟨by simp,.inl ⟨rfl,rfl⟩⟩ ge).mono ?_;rintro v h' ⟨rfl,_,_,_,_,ho,_⟩;exact⟨_,ρ,rfl,ho,λid ob hi=>.inl hi,by rw[GS]⟩
def LD(l:List (List Nat)):List (List Nat):=rN (ee l)
def cK(e:bC):(ar e).length=14:=rfl
def dz(e:bC):ar e=[ab e.op,ab e.day,ah e.part,ah e.kind,ah e.bu,ah e.slot,ah e.key,ah e.value,ab e.u1,ab e.u2,ab e.u3,ab e.u4,ab e.u5,ab e.u6]:=rfl
def bY(e:bC):bV (ar e)=true:=rfl
section
variable {α:Type} {c:α->SV}
def rq(l:List α):l.flatMap (aG c)=l.map c:=by
 induction l with
 | nil=>rfl
 | cons a l ih=>rw[flatMap_cons,ih];rfl
def RY{l:List α}{x:α}(h:l[i]?=some x):(l.flatMap (aG c))[i]?=some (c x):=by
 rw[rq,aW,h];rfl
def Qe(l:List α):(l.flatMap (aG c)).length=l.length:=by rw[rq,List.length_map]
def NR{l:List α}(y:α)(h:i<l.length):(l.flatMap (aG c)).take i++(c y::(l.flatMap (aG c)).drop (i+1))=(l.set i y).flatMap (aG c):=by
 rw[rq,rq,List.map_set,bb,ut (by rw[am];exact h)]
end
abbrev qx(n:Nat):SV:=ab (n:Int)
def qX(a0 a1 d:Int):Int:=gl (qk a0 d) (qk a1 d)
def qW(a0 a1 d:Int):Int:=eF (qk a0 d) (qk a1 d)
def vP(a0 a1 lo hi:Int)(h:lo<=hi):SC prog 355 [ab lo,ab hi,.ptr 0 0,.ptr 1 0] [.cells [ab a0,ab a1],.cells [aR]] []
 (λr S'=>r=.cA []/\S'=[.cells [ab a0,ab a1],.cells [.buf 4 2 2 none],.gone,.gone,.cells [ab (qX a0 a1 lo),ab (qW a0 a1 lo),ab (qX a0 a1 hi),ab (qW a0 a1 hi)]]):=by
 refine Rj 40 dc ?_;refine(aA (show decide (lo<=hi)=true by simpa using h)) ?_
 (repeat refine aF.seq ?_)
 refine aF.yes rfl ?_;refine(zV) ?_
 (repeat refine aF.seq ?_)
 refine aF.block (aF.loop (λm st=>
  (m=2/\st=⟨[(2,.ptr 0 0),(3,.ptr 1 0),(15,.buf 2 2 1 (some 2)),(16,ab 2),(17,ab 0),(1000000,.ptr 0 0),(1000001,.ptr 1 0)],40,[.cells [ab a0,ab a1],.cells [aR],.cells [ab lo,ab hi]],[]⟩)\/
  (m=1/\st=⟨[(2,.ptr 0 0),(3,.ptr 1 0),(15,.buf 2 2 1 (some 2)),(16,ab 2),(17,ab 1),(1000000,.ptr 0 0),(1000001,.ptr 1 0)],40,[.cells [ab a0,ab a1],.cells [.buf 4 1 2 none],.cells [ab lo,ab hi],.gone,.cells [ab (qX a0 a1 lo),ab (qW a0 a1 lo)]],[]⟩)\/
  (m=0/\st=⟨[(2,.ptr 0 0),(3,.ptr 1 0),(15,.buf 2 2 1 (some 2)),(16,ab 2),(17,ab 2),(1000000,.ptr 0 0),(1000001,.ptr 1 0)],40,[.cells [ab a0,ab a1],.cells [.buf 4 2 2 none],.cells [ab lo,ab hi],.gone,.cells [ab (qX a0 a1 lo),ab (qW a0 a1 lo),ab (qX a0 a1 hi),ab (qW a0 a1 hi)]],[]⟩)) 2 zH (.inl ⟨rfl,rfl⟩) (by rintro m st (⟨_,rfl⟩ | ⟨_,rfl⟩ | ⟨_,rfl⟩)<;>rfl) ?_)
 rintro m st (⟨rfl,rfl⟩ | ⟨rfl,rfl⟩ | ⟨rfl,rfl⟩)
 ·refine(wO)<|(zB)<|(zV)<|(zs) ?_;refine oe [0,1,0,7,0,16,0,127,255,511] ?_;refine(zD)<|(xv (gU a0 lo))<|(zD)<|(xv (gU a1 lo))<|(zD)<|(zM)<|(aA (bx @jc @fk))<|(zV) ?_;exact⟨1,_,by omega,(cm (bx @qX.eq_1 @qW.eq_1)),.inr (.inl ⟨rfl,rfl⟩)⟩
 ·refine(wO)<|(zB)<|(zV)<|(zs) ?_;refine oe [0,1,0,7,0,16,0,127,255,511] ?_;refine(zD)<|(xv (gU a0 hi))<|(zD)<|(xv (gU a1 hi))<|(zD)<|(zM)<|(aA (bx @jc @fk))<|(zV) ?_;exact⟨0,_,by omega,(cm (bx @qX.eq_1 @qW.eq_1)),.inr (.inr ⟨rfl,rfl⟩)⟩
 ·refine(Ec)<|zA [(1000000,.ptr 0 0),(1000001,.ptr 1 0)] [.cells [ab a0,ab a1],.cells [.buf 4 2 2 none],.gone,.gone,.cells [ab (qX a0 a1 lo),ab (qW a0 a1 lo),ab (qX a0 a1 hi),ab (qW a0 a1 hi)]] zH ?_;refine aF.exit ?_
  simp only[eV,dh,cq,bP,if_true];exact zP []
def Gp(a0 a1 lo hi:Int)(h:¬lo<=hi):SC prog 355 [ab lo,ab hi,.ptr 0 0,.ptr 1 0] [.cells [ab a0,ab a1],.cells [aR]] []
 (λr S'=>r=.cA []/\S'=[.cells [ab a0,ab a1],.cells [aR]]):=by
 refine Rj 40 dc ?_;refine(aA (show decide (lo<=hi)=false by simpa using h)) ?_
 (repeat refine aF.seq ?_)
 refine aF.no rfl ?_;refine aF.skip ?_
 (try simp only[eV,dh,cq,bP])
 exact zP []
def qH(a0 a1 lo hi:Int)(n:Nat)(cs:List SV)(h:¬lo<=hi):SC prog 355 [ab lo,ab hi,.ptr 0 0,.ptr 1 0] [.cells [ab a0,ab a1],.cells [.buf 2 n 2 none],.cells cs] []
 (λr S'=>r=.cA []/\S'=[.cells [ab a0,ab a1],.cells [.buf 2 n 2 none],.cells cs]):=by
 refine TL 40 dc ?_;refine(aA (show decide (lo<=hi)=false by simpa using h)) ?_
 (repeat refine aF.seq ?_)
 refine aF.no rfl ?_;refine aF.skip ?_
 (try simp only[eV,dh,cq,bP])
 exact zP []
def cT(p:Int×Int):List SV:=[ab p.1,ab p.2]
def qY(p:Int×Int):(cT p).length=2:=rfl
def mg(p:Int×Int):bV (cT p)=true:=rfl
def vO(a0 a1 lo hi:Int)(rows:List (Int×Int))(hlen:rows.length<=1000)(h:lo<=hi):SC prog 355 [ab lo,ab hi,.ptr 0 0,.ptr 1 0] [.cells [ab a0,ab a1],.cells [.buf 2 rows.length 2 none],.cells (rows.flatMap cT)] [2]
 (λr S'=>r=.cA []/\S'=[.cells [ab a0,ab a1],.cells [.buf 2 (rows.length+1+1) 2 none],.cells ((rows++[(qX a0 a1 lo,qW a0 a1 lo)]++[(qX a0 a1 hi,qW a0 a1 hi)]).flatMap cT)]):=by
 refine TL 40 dc ?_;have step:∀(l:List (Int×Int)) (x y:Int),((l.flatMap cT).take (l.length*2)++[ab x,ab y]).map (aO 2)=(l++[(x,y)]).flatMap cT:=λl x y=>mb qY mg 2 l (x,y);have hcl:∀l:List (Int×Int),(l.flatMap cT).length=l.length*2:=bg qY;have hkc:∀(o:Nat) (l:List (Int×Int)),(l.flatMap cT).map (aO o)=l.flatMap cT:=λo l=>bF mg o l;refine(aA (show decide (lo<=hi)=true by simpa using h)) ?_
 (repeat refine aF.seq ?_)
 refine aF.yes rfl ?_;refine(aA hkc) ?_
 (repeat refine aF.seq ?_)
 refine aF.block (aF.loop (λm st=>∃q:List (Int×Int),
  (m=2/\q=rows/\st=⟨[(2,.ptr 0 0),(3,.ptr 1 0),(15,.buf 3 2 1 (some 2)),(16,ab 2),(17,ab 0),(1000000,.ptr 0 0),(1000001,.ptr 1 0)],40,[.cells [ab a0,ab a1],.cells [.buf 2 q.length 2 none],.cells (q.flatMap cT),.cells [ab lo,ab hi]],[]⟩)\/
  (m=1/\q=rows++[(qX a0 a1 lo,qW a0 a1 lo)]/\st=⟨[(2,.ptr 0 0),(3,.ptr 1 0),(15,.buf 3 2 1 (some 2)),(16,ab 2),(17,ab 1),(1000000,.ptr 0 0),(1000001,.ptr 1 0)],40,[.cells [ab a0,ab a1],.cells [.buf 2 q.length 2 none],.cells (q.flatMap cT),.cells [ab lo,ab hi]],[]⟩)\/
  (m=0/\q=rows++[(qX a0 a1 lo,qW a0 a1 lo)]++[(qX a0 a1 hi,qW a0 a1 hi)]/\st=⟨[(2,.ptr 0 0),(3,.ptr 1 0),(15,.buf 3 2 1 (some 2)),(16,ab 2),(17,ab 2),(1000000,.ptr 0 0),(1000001,.ptr 1 0)],40,[.cells [ab a0,ab a1],.cells [.buf 2 q.length 2 none],.cells (q.flatMap cT),.cells [ab lo,ab hi]],[]⟩)) 2 zH ⟨rows,.inl ⟨rfl,rfl,rfl⟩⟩ (by rintro m st ⟨q,⟨_,_,rfl⟩ | ⟨_,_,rfl⟩ | ⟨_,_,rfl⟩⟩<;>rfl) ?_)
 rintro m st ⟨q,⟨rfl,hq,rfl⟩ | ⟨rfl,hq,rfl⟩ | ⟨rfl,hq,rfl⟩⟩
 ·have hql:q.length<=1000000:=by rw[hq];omega
  refine(wO)<|(zB)<|(zV)<|(zs) ?_;refine oe [0,1,0,7,0,16,0,127,255,511] ?_;refine(zD)<|(xv (gU a0 lo))<|(zD)<|(xv (gU a1 lo))<|(zD)<|(zM)<|(aA (He @jc @fk hkc hcl step hql @aa))<|(zV) ?_;refine⟨1,_,by omega,(cm (xO @qX.eq_1 @qW.eq_1 hq @li.{0} @i7.{0} @i5.{0})),q++[(qX a0 a1 lo,qW a0 a1 lo)],.inr (.inl ⟨rfl,by rw[hq],rfl⟩)⟩
 ·have hql:q.length<=1000000:=by rw[hq,li];simp only[i7,i5];omega
  refine(wO)<|(zB)<|(zV)<|(zs) ?_;refine oe [0,1,0,7,0,16,0,127,255,511] ?_;refine(zD)<|(xv (gU a0 hi))<|(zD)<|(xv (gU a1 hi))<|(zD)<|(zM)<|(aA (He @jc @fk hkc hcl step hql @aa))<|(zV) ?_;refine⟨0,_,by omega,(cm (xO @qX.eq_1 @qW.eq_1 hq @li.{0} @i7.{0} @i5.{0})),q++[(qX a0 a1 hi,qW a0 a1 hi)],.inr (.inr ⟨rfl,by rw[hq],rfl⟩)⟩
 ·refine(Ec) ?_;rw[show q.length=rows.length+1+1 by rw[hq];simp];refine zA [(1000000,.ptr 0 0),(1000001,.ptr 1 0)] [.cells [ab a0,ab a1],.cells [.buf 2 (rows.length+1+1) 2 none],.cells (q.flatMap cT)] zH ?_;refine aF.exit ?_;simp only[eV,dh,cq,bP,if_true];exact zP [] (hq:=by (try simp only[ez,bK]);first | done | (rw[hq];first | exact⟨rfl,rfl⟩ | exact⟨trivial,rfl⟩ | exact⟨rfl,trivial⟩ | exact⟨trivial,trivial⟩))
def cW(a0 a1 lo hi:Int):List (Int×Int):=if lo<=hi then [(qX a0 a1 lo,qW a0 a1 lo)]++[(qX a0 a1 hi,qW a0 a1 hi)] else []
def lO(a0 a1 b0 b1:Int):List (Int×Int):=(if b0<=0/\0<=b1 then [(0,0)] else [])++cW a0 a1 (eF b0 1) b1++cW a0 a1 b0 (gl b1 (-1))
def iP(x y:Int×Int):Int×Int:=lU x.1 x.2 y.1 y.2
def jz(a0 a1 b0 b1:Int):Int×Int:=(lO a0 a1 b0 b1).foldl iP ((lO a0 a1 b0 b1).headD (0,0))
def uQ{f:α->α->α}{x a:α}(h:l[i]?=some x):(l.take (i+1)).foldl f a=f ((l.take i).foldl f a) x:=by
 rw[dE,h,Option.toList_some,ck];rfl
def Gq(a0 a1 b0 b1:Int)(hb:b0<=b1):PC prog 351 [kT a0 a1,kT b0 b1] (·=od (jz a0 a1 b0 b1)):=by
 refine pB 51 Tryz.func351 ?_;have hkc:∀(o:Nat) (l:List (Int×Int)),(l.flatMap cT).map (aO o)=l.flatMap cT:=λo l=>bF mg o l;have hrc:∀(g:Nat->Nat) (l:List (Int×Int)),mM g (l.flatMap cT)=l.flatMap cT:=λg l=>bq (aD mg l);have hbc:∀(B:Nat) (l:List (Int×Int)),iG B (l.flatMap cT)=true:=λB l=>bQ (aD mg l);have hcl:∀l:List (Int×Int),(l.flatMap cT).length=l.length*2:=bg qY
 refine(aA @kT.eq_1)<|(zV) ?_
 by_cases hz:b0<=0/\0<=b1
 ·refine(aA (bx (show decide (b0<=0)=true by simpa using hz.1) (show decide (0<=b1)=true by simpa using hz.2)))<|(cL)<|(zV) ?_
  have hm1:eF b0 1=1:=by unfold eF;split<;>omega
  have d1:lO a0 a1 b0 b1=([(0,0)]++cW a0 a1 1 b1)++cW a0 a1 b0 (gl b1 (-1)):=by rw[lO,ut hz,hm1]
  (repeat refine aF.seq ?_)
  refine aF.mono (Q:=λe st=>e=.normal/\Fg st ⟨[(3,.ptr 1 0),(4,.ptr 2 0),(5,.ptr 3 0),(6,.fn 355 [] [.ptr 0 0,.ptr 3 0])],51,[.cells [ab a0,ab a1],.cells [ab b0,ab b1],.cells [ab 0,ab 0],.cells [.buf 5 ([(0,0)]++cW a0 a1 1 b1).length 2 none],.gone,.cells (([(0,0)]++cW a0 a1 1 b1).flatMap cT)],[]⟩) ?_ ?_
  ·by_cases h1:(1:Int)<=b1
   ·refine(e9 (bx @fk hm1)) ?_;have hd:=vO a0 a1 1 b1 [(0,0)] g9 h1;rw[show[((0:Int),(0:Int))].flatMap cT=[ab 0,ab 0] from rfl,show[((0:Int),(0:Int))].length=1 from rfl] at hd;refine zS [0,3,5] (cO hrc hbc hkc) hd ?_;refine(zR) ?_;refine⟨rfl,(Fg.less (by (simp only[cN,bL,fF,↓reduceIte,a6,cW,ut h1,li,i7,i5,aV])<;>(repeat' apply bi)<;>first | rfl | trivial) (by (simp only[cN,bL,or_true,true_or,cW,ut h1,li,i7,i5,aV])<;>(repeat' apply bi)<;>first | exact .inr rfl | exact .inl rfl | trivial))⟩
   ·refine(e9 (bx @fk hm1)) ?_;have hd:=qH a0 a1 1 b1 1 [ab 0,ab 0] h1;refine zS [0,3,5] (cO hrc hbc hkc) hd ?_;refine(zR) ?_;refine⟨rfl,(Fg.less (by (simp only[cN,bL,fF,↓reduceIte,a6,cW,v6 h1,append_nil,i7,i5,flatMap_cons,flatMap_nil,cT])<;>(repeat' apply bi)<;>first | rfl | trivial) (by (simp only[cN,bL,or_true,true_or,cW,v6 h1,append_nil,i7,i5,flatMap_cons,flatMap_nil,cT])<;>(repeat' apply bi)<;>first | exact .inr rfl | exact .inl rfl | trivial))⟩
  rintro e st ⟨rfl,hfg⟩;refine aF.fg hfg ?_;clear hfg
  (try change aF _ _ _ _ _)
  have hq1:([(0,0)]++cW a0 a1 1 b1).length<=1000:=by
   unfold cW;split<;>simp
  (repeat refine aF.seq ?_)
  refine aF.mono (Q:=λe st=>e=.normal/\Fg st ⟨[(3,.ptr 1 0),(4,.ptr 2 0),(5,.ptr 3 0),(6,.fn 355 [] [.ptr 0 0,.ptr 3 0])],51,[.cells [ab a0,ab a1],.cells [ab b0,ab b1],.cells [ab 0,ab 0],.cells [.buf 5 (([(0,0)]++cW a0 a1 1 b1)++cW a0 a1 b0 (gl b1 (-1))).length 2 none],.gone,.cells ((([(0,0)]++cW a0 a1 1 b1)++cW a0 a1 b0 (gl b1 (-1))).flatMap cT)],[]⟩) ?_ ?_
  ·generalize ([(0,0)]++cW a0 a1 1 b1)=q1 at hq1;by_cases h2:b0<=gl b1 (-1)
   ·refine(e9 @jc) ?_;have hd:=vO a0 a1 b0 (gl b1 (-1)) q1 hq1 h2;refine zS [0,3,5] (cO hrc hbc hkc) hd ?_;refine(zR) ?_;refine⟨rfl,(Fg.less (by (simp only[cN,bL,fF,↓reduceIte,a6,cW,ut h2,li,i7,i5,aV])<;>(repeat' apply bi)<;>first | rfl | trivial) (by (simp only[cN,bL,or_true,true_or,cW,ut h2,li,i7,i5,aV])<;>(repeat' apply bi)<;>first | exact .inr rfl | exact .inl rfl | trivial))⟩
   ·refine(e9 @jc) ?_;have hd:=qH a0 a1 b0 (gl b1 (-1)) q1.length (q1.flatMap cT) h2;refine zS [0,3,5] (cO hrc hbc hkc) hd ?_;refine(zR) ?_;refine⟨rfl,(Fg.less (by (simp only[cN,bL,fF,↓reduceIte,a6,cW,v6 h2,append_nil])<;>(repeat' apply bi)<;>first | rfl | trivial) (by (simp only[cN,bL,or_true,true_or,cW,v6 h2,append_nil])<;>(repeat' apply bi)<;>first | exact .inr rfl | exact .inl rfl | trivial))⟩
  rintro e st ⟨rfl,hfg⟩;refine aF.fg hfg ?_;clear hfg
  (try change aF _ _ _ _ _)
  obtain⟨rows,hrows⟩:∃rows,rows=(([(0,0)]++cW a0 a1 1 b1)++cW a0 a1 b0 (gl b1 (-1))):=⟨_,rfl⟩
  have hne:rows≠[]:=by rw[hrows];simp
  obtain⟨x0,hr0⟩:∃x0,rows[0]?=some x0:=by
   cases h:rows with
   | nil=>exact un h hne
   | cons x r=>exact⟨x,rfl⟩
  have h0r:0<rows.length:=br hr0
  have hlen:rows.length<=1000000:=by rw[hrows];(unfold cW;split<;>split<;>simp)
  have hD:jz a0 a1 b0 b1=rows.foldl iP x0:=by rw[jz,d1,<-hrows,show rows.headD (0,0)=x0 by cases rows with | nil=>exact un rfl hne | cons x r=>simpa using hr0]
  have ht2:(rows.flatMap cT).take 2=[ab x0.1,ab x0.2]:=by
   have:=aT (e:=2) (enc:=cT) gc hr0
   rwa [bh,cc] at this
  rw[<-hrows];clear hrows
  refine(aA (He (show dj (.int .i64 0)=some 0 from rfl) @bh h0r hkc hcl ht2 (show 2<=rows.length*2 by omega)))<|(zV)<|(zs) ?_;refine zL rows (λk=>True) (λk=>[(4,.ptr 2 0),(7,.ptr 6 0),(40,.buf 5 rows.length 2 none),(41,ab rows.length),(42,ab k)]) (λk=>[.gone,.gone,.cells [ab 0,ab 0],.gone,.gone,.cells (rows.flatMap cT),.cells [ab ((rows.take k).foldl iP x0).1,ab ((rows.take k).foldl iP x0).2]]) (cm (cO @take_zero.{0} @foldl_nil.{0,0} hkc)) zp ?_;intro k hk hall;refine zT rows k ?_ ?_;rintro rfl;rotate_left;intro x hx hlt;rotate_left
  ·refine(gh) ?_;rw[a8]
   exact(zV)<|zo [.cell 4 52] (hq:=by rw[hD,od,kT])
  have hst:=uQ (f:=iP) (a:=x0) hx;obtain⟨p,q,hpq⟩:∃p q,(rows.take k).foldl iP x0=(p,q):=⟨_,_,rfl⟩;rw[hpq] at hst ⊢
  refine(gz)<|(aA (xO hlt (aT (e:=2) (enc:=cT) gc hx) @cT.eq_1 hcl (show k*2+2<=rows.length*2 by omega) hkc))<|(zC)<|(zK (nG p q x.1 x.2))<|(cP (bx @od.eq_1 @kT.eq_1))<|(aA (zi hlt hlen)) ?_;refine zX hlt (cm (cO hst @iP.eq_1 hkc)) trivial
 by_cases hp:1<=b0
 ·refine(aA (show decide (b0<=0)=false by simp;omega))<|(lf) ?_
  have hm1:eF b0 1=b0:=by unfold eF;split<;>omega
  have hm2:gl b1 (-1) = -1:=by unfold gl;split<;>omega
  have d1:lO a0 a1 b0 b1=[(qX a0 a1 b0,qW a0 a1 b0),(qX a0 a1 b1,qW a0 a1 b1)]:=by rw[lO,v6 hz,hm1,hm2,cW,ut hb,cW,v6 i4];rfl
  refine(e9 (bx @fk hm1)) ?_;have hd:=vP a0 a1 b0 b1 hb
  refine zS [0,3] (cO hrc hbc hkc) hd ?_;refine(zR)<|(e9 (bx @jc hm2)) ?_
  have hd2:=qH a0 a1 b0 (-1) 2 [ab (qX a0 a1 b0),ab (qW a0 a1 b0),ab (qX a0 a1 b1),ab (qW a0 a1 b1)] i4;refine zS [0,3,6] (cO hrc hbc hkc) hd2 ?_;refine(zR) ?_;obtain⟨rows,hrows⟩:∃rows,rows=[(qX a0 a1 b0,qW a0 a1 b0),(qX a0 a1 b1,qW a0 a1 b1)]:=⟨_,rfl⟩
  have hne:rows≠[]:=by rw[hrows];simp
  obtain⟨x0,hr0⟩:∃x0,rows[0]?=some x0:=by
   cases h:rows with
   | nil=>exact un h hne
   | cons x r=>exact⟨x,rfl⟩
  have h0r:0<rows.length:=br hr0
  have hlen:rows.length<=1000000:=by rw[hrows];simp
  have hD:jz a0 a1 b0 b1=rows.foldl iP x0:=by rw[jz,d1,<-hrows,show rows.headD (0,0)=x0 by cases rows with | nil=>exact un rfl hne | cons x r=>simpa using hr0]
  have ht2:(rows.flatMap cT).take 2=[ab x0.1,ab x0.2]:=by
   have:=aT (e:=2) (enc:=cT) gc hr0
   rwa [bh,cc] at this
  rw[show([ab (qX a0 a1 b0),ab (qW a0 a1 b0),ab (qX a0 a1 b1),ab (qW a0 a1 b1)]:List SV)=rows.flatMap cT by rw[hrows];rfl,show(SV.buf 6 2 2 none)=.buf 6 rows.length 2 none by rw[hrows];rfl];clear hrows
  refine(aA (He (show dj (.int .i64 0)=some 0 from rfl) @bh h0r hkc hcl ht2 (show 2<=rows.length*2 by omega)))<|(zV)<|(zs) ?_;refine zL rows (λk=>True) (λk=>[(4,.ptr 2 0),(7,.ptr 7 0),(40,.buf 6 rows.length 2 none),(41,ab rows.length),(42,ab k)]) (λk=>[.gone,.gone,.cells [ab 0,ab 0],.gone,.gone,.gone,.cells (rows.flatMap cT),.cells [ab ((rows.take k).foldl iP x0).1,ab ((rows.take k).foldl iP x0).2]]) (cm (cO @take_zero.{0} @foldl_nil.{0,0} hkc)) zp ?_;intro k hk hall;refine zT rows k ?_ ?_;rintro rfl;rotate_left;intro x hx hlt;rotate_left
  ·refine(gh) ?_;rw[a8]
   exact(zV)<|zo [.cell 4 52] (hq:=by rw[hD,od,kT])
  have hst:=uQ (f:=iP) (a:=x0) hx;obtain⟨p,q,hpq⟩:∃p q,(rows.take k).foldl iP x0=(p,q):=⟨_,_,rfl⟩;rw[hpq] at hst ⊢
  refine(gz)<|(aA (xO hlt (aT (e:=2) (enc:=cT) gc hx) @cT.eq_1 hcl (show k*2+2<=rows.length*2 by omega) hkc))<|(zC)<|(zK (nG p q x.1 x.2))<|(cP (bx @od.eq_1 @kT.eq_1))<|(aA (zi hlt hlen)) ?_;refine zX hlt (cm (cO hst @iP.eq_1 hkc)) trivial
 ·have hn:b1 <= -1:=by omega
  by_cases hq0:b0<=0;rotate_left
  ·omega
  refine(aA (bx (show decide (b0<=0)=true by simpa using hq0) (show decide (0<=b1)=false by simp;omega)))<|(lf) ?_
  have hm1:eF b0 1=1:=by unfold eF;split<;>omega
  have hm2:gl b1 (-1)=b1:=by unfold gl;split<;>omega
  have d1:lO a0 a1 b0 b1=[(qX a0 a1 b0,qW a0 a1 b0),(qX a0 a1 b1,qW a0 a1 b1)]:=by rw[lO,v6 hz,hm1,hm2,cW,v6 i4,cW,ut hb];rfl
  refine(e9 (bx @fk hm1)) ?_;have hd:=Gp a0 a1 1 b1 i4
  refine zS [0,3] (cO hrc hbc hkc) hd ?_;refine(zR)<|(e9 (bx @jc hm2)) ?_
  have hd2:=vP a0 a1 b0 b1 hb;refine zS [0,3] (cO hrc hbc hkc) hd2 ?_;refine(zR) ?_;obtain⟨rows,hrows⟩:∃rows,rows=[(qX a0 a1 b0,qW a0 a1 b0),(qX a0 a1 b1,qW a0 a1 b1)]:=⟨_,rfl⟩
  have hne:rows≠[]:=by rw[hrows];simp
  obtain⟨x0,hr0⟩:∃x0,rows[0]?=some x0:=by
   cases h:rows with
   | nil=>exact un h hne
   | cons x r=>exact⟨x,rfl⟩
  have h0r:0<rows.length:=br hr0
  have hlen:rows.length<=1000000:=by rw[hrows];simp
  have hD:jz a0 a1 b0 b1=rows.foldl iP x0:=by rw[jz,d1,<-hrows,show rows.headD (0,0)=x0 by cases rows with | nil=>exact un rfl hne | cons x r=>simpa using hr0]
  have ht2:(rows.flatMap cT).take 2=[ab x0.1,ab x0.2]:=by
   have:=aT (e:=2) (enc:=cT) gc hr0
   rwa [bh,cc] at this
  rw[show([ab (qX a0 a1 b0),ab (qW a0 a1 b0),ab (qX a0 a1 b1),ab (qW a0 a1 b1)]:List SV)=rows.flatMap cT by rw[hrows];rfl,show(SV.buf 6 2 2 none)=.buf 6 rows.length 2 none by rw[hrows];rfl];clear hrows
  refine(aA (He (show dj (.int .i64 0)=some 0 from rfl) @bh h0r hkc hcl ht2 (show 2<=rows.length*2 by omega)))<|(zV)<|(zs) ?_;refine zL rows (λk=>True) (λk=>[(4,.ptr 2 0),(7,.ptr 7 0),(40,.buf 6 rows.length 2 none),(41,ab rows.length),(42,ab k)]) (λk=>[.gone,.gone,.cells [ab 0,ab 0],.gone,.gone,.gone,.cells (rows.flatMap cT),.cells [ab ((rows.take k).foldl iP x0).1,ab ((rows.take k).foldl iP x0).2]]) (cm (cO @take_zero.{0} @foldl_nil.{0,0} hkc)) zp ?_;intro k hk hall;refine zT rows k ?_ ?_;rintro rfl;rotate_left;intro x hx hlt;rotate_left
  ·refine(gh) ?_;rw[a8]
   exact(zV)<|zo [.cell 4 52] (hq:=by rw[hD,od,kT])
  have hst:=uQ (f:=iP) (a:=x0) hx;obtain⟨p,q,hpq⟩:∃p q,(rows.take k).foldl iP x0=(p,q):=⟨_,_,rfl⟩;rw[hpq] at hst ⊢
  refine(gz)<|(aA (xO hlt (aT (e:=2) (enc:=cT) gc hx) @cT.eq_1 hcl (show k*2+2<=rows.length*2 by omega) hkc))<|(zC)<|(zK (nG p q x.1 x.2))<|(cP (bx @od.eq_1 @kT.eq_1))<|(aA (zi hlt hlen)) ?_;refine zX hlt (cm (cO hst @iP.eq_1 hkc)) trivial
structure jo where
 u1:Int
 u2:Int
 u3:Int
 u4:Int
 u5:Int
 u6:Int
def eg(u:jo):List SV:=[ab u.u1,ab u.u2,ab u.u3,ab u.u4,ab u.u5,ab u.u6]
def nz(u:jo)(op:Int):Int×Int:=if op=2 then (u.u1,u.u2) else if op=3 then (u.u3,u.u4) else (u.u5,u.u6)
def applyN(op:Int)(a b:Int×Int):Int×Int:=
 if op=5 then fj jK a.1 a.2 b.1 b.2 else if op=6 then fj CY a.1 a.2 b.1 b.2 else if op=7 then fj zf a.1 a.2 b.1 b.2
 else if op=9 then (gl a.1 b.1,gl a.2 b.2) else if op=10 then (eF a.1 b.1,eF a.2 b.2) else jz a.1 a.2 b.1 b.2
def np(a b c:Int×Int):Int×Int:=if oK a.1 a.2 0=2 then b else if oK a.1 a.2 0=0 then c else lU b.1 b.2 c.1 c.2
def DR(u:jo)(n:Int):PC prog 348 [.ag (eg u),ab n] (·=od (n,n)):=by
 refine pB 8 Tryz.func348 ?_;exact(aA @eg.eq_1)<|(zV)<|zo [.cell 4 52]
def DL(u:jo)(op:Int):PC prog 347 [.ag (eg u),ab op] (·=od (nz u op)):=by
 refine pB 19 Tryz.func347 ?_;refine(aA @eg.eq_1)<|(zV)<|(zB) ?_
 cases h1:decide (op=2);rotate_left
 ·exact(aA h1)<|(cL)<|zo [.cell 4 52] (hq:=by rw[nz,ut (ww h1)];rfl)
 refine(aA h1)<|(zN) ?_
 cases h2:decide (op=3);rotate_left
 ·exact(aA h2)<|(cL)<|zo [.cell 4 52] (hq:=by rw[nz,v6 (wt h1),ut (ww h2)];rfl)
 exact(aA h2)<|(lf)<|zo [.cell 4 52] (hq:=by rw[nz,v6 (wt h1),v6 (wt h2)];rfl)
def Du(u:jo)(a b c:Int×Int):PC prog 346 [.ag (eg u),od a,od b,od c] (·=od (np a b c)):=by
 refine pB 20 Tryz.func346 ?_;refine(aA (cO @eg.eq_1 @od.eq_1 @kT.eq_1))<|(zC)<|(zK (qJ a.1 a.2 0))<|(zR)<|(zB) ?_
 cases h1:decide (oK a.1 a.2 0=2);rotate_left
 ·exact(aA h1)<|(cL)<|zo [.cell 8 52] (hq:=by rw[np,ut (ww h1)];rfl)
 refine(aA h1)<|(zN) ?_
 cases h2:decide (oK a.1 a.2 0=0);rotate_left
 ·exact(aA h2)<|(cL)<|zo [.cell 8 52] (hq:=by rw[np,v6 (wt h1),ut (ww h2)];rfl)
 exact(aA h2)<|(Ma)<|(zK (nG b.1 b.2 c.1 c.2))<|(cP (bx @od.eq_1 @kT.eq_1))<|zo [.cell 8 52] (hq:=by rw[np,v6 (wt h1),v6 (wt h2)];rfl)
def Gf(u:jo)(op:Int)(a b:Int×Int)(hb:b.1<=b.2):PC prog 345 [.ag (eg u),ab op,od a,od b] (·=od (applyN op a b)):=by
 refine pB 54 Tryz.func345 ?_;refine(aA (cO @eg.eq_1 @od.eq_1 @kT.eq_1))<|(zV)<|(zB) ?_
 cases h1:decide (op=5);rotate_left
 ·exact(aA h1)<|(zY)<|(zC)<|(zK (pP a.1 a.2 b.1 b.2))<|(cP (bx @od.eq_1 @kT.eq_1))<|zo [.cell 8 52] (hq:=by rw[applyN,ut (ww h1)];rfl)
 have g1:=wt h1
 refine(aA h1)<|(zN) ?_
 cases h2:decide (op=6);rotate_left
 ·exact(aA h2)<|(zY)<|(zC)<|(zK (IL a.1 a.2 b.1 b.2))<|(cP (bx @od.eq_1 @kT.eq_1))<|zo [.cell 8 52] (hq:=by rw[applyN,v6 g1,ut (ww h2)];rfl)
 have g2:=wt h2
 refine(aA h2)<|(zN) ?_
 cases h3:decide (op=7);rotate_left
 ·exact(aA h3)<|(zY)<|(zC)<|(zK (IK a.1 a.2 b.1 b.2))<|(cP (bx @od.eq_1 @kT.eq_1))<|zo [.cell 8 52] (hq:=by rw[applyN,v6 g1,v6 g2,ut (ww h3)];rfl)
 have g3:=wt h3
 refine(aA h3)<|(zN) ?_
 cases h4:decide (op=9);rotate_left
 ·exact(aA h4)<|(zY)<|(aA @jc)<|zo [.cell 8 52] (hq:=by rw[applyN,v6 g1,v6 g2,v6 g3,ut (ww h4)];rfl)
 have g4:=wt h4
 refine(aA h4)<|(zN) ?_
 cases h5:decide (op=10);rotate_left
 ·exact(aA h5)<|(zY)<|(aA @fk)<|zo [.cell 8 52] (hq:=by rw[applyN,v6 g1,v6 g2,v6 g3,v6 g4,ut (ww h5)];rfl)
 have g5:=wt h5
 exact(aA h5)<|(Ma)<|(zK (Gq a.1 a.2 b.1 b.2 hb))<|(cP (bx @od.eq_1 @kT.eq_1))<|zo [.cell 8 52] (hq:=by rw[applyN,v6 g1,v6 g2,v6 g3,v6 g4,v6 g5];rfl)
inductive bE where
 | mk (op n:Int) (kids:List bE)
def bE.op:bE->Int
 | .mk op _ _=>op
mutual
def aE:bE->List SV
 | .mk op n kids=>[ab op,ab n,.sl kids.length 3 (qh kids)]
def qh:List bE->List SV
 | []=>[]
 | f::fs=>aE f++qh fs
end
def vz:∀l:List bE,qh l=l.flatMap aE
 | []=>by rw[qh];rfl
 | f::l=>by rw[qh,vz l,flatMap_cons]
def dr(op n:Int)(kids:List bE):aE (.mk op n kids)=[ab op,ab n,.sl kids.length 3 (kids.flatMap aE)]:=by rw[aE,vz]
def eX(f:bE):(aE f).length=3:=by
 obtain⟨op,n,kids⟩:=f;rw[dr];rfl
def aY(f:bE):bV (aE f)=true:=by
 obtain⟨op,n,kids⟩:=f;rw[dr];rfl
inductive gC:bE->Prop
 | mk {op n:Int} {kids:List bE}:kids.length<=1000000->(∀k∈kids,gC k)->gC (.mk op n kids)
mutual
def fC:bE->Int->Int
 | .mk _ _ kids,most=>gP kids most 1
def gP:List bE->Int->Int->Int
 | [],_,n=>n
 | k::ks,most,n=>if most<n then n else gP ks most (Cc n (fC k (tZ most n)))
end
def vW:∀(d:Nat) (f:bE),SizeOf.sizeOf f<d->gC f->∀most:Int,PC Tryz.prog 102 [.ag (aE f),ab most] (·=ab (fC f most))
 | 0,f,hd,_,_=>un hd (Nat.not_lt_zero _)
 | d+1,.mk op n kids,hd,hf,most=>by
  cases hf with
  | mk hlen hks=>
  have hkd:∀k∈kids,SizeOf.sizeOf k<d:=λk hk=>by
   have h1:=List.sizeOf_lt_of_mem hk
   have h2:SizeOf.sizeOf (bE.mk op n kids)=1+SizeOf.sizeOf op+SizeOf.sizeOf n+SizeOf.sizeOf kids:=by simp
   omega
  rw[dr,fC]
  refine pB 27 Tryz.func102 ?_;refine(og)<|(zV)<|(zs) ?_;refine Jg kids (λk (acc:Int)=>gP kids most 1=gP (kids.drop k) most acc) (λk acc=>[(1,ab most),(5,ab acc),(9,ak 3 kids aE),(10,ab kids.length),(11,ab k)]) (λk acc=>[]) (1) zH ii ?_;intro k acc hk hall;refine zT kids k ?_ ?_;rintro rfl;rotate_left;intro x hx hlt;rotate_left
  ·exact(gh)<|(zV)<|zo [.tmp 4] (hq:=by rw[hall,List.drop_length,gP])
  rw[eW hx,gP] at hall;have hxm:=List.mem_of_getElem? hx;have ih:=vW d x (hkd x hxm) (hks x hxm);have hxl:((kids.flatMap aE).drop (k*3)).take 3=aE x:=aT (e:=3) (enc:=aE) eX hx;obtain⟨op',n',kids'⟩:=x;simp only[dr] at hxl ih
  refine(gz)<|(aA (bx hlt hxl)) ?_
  cases h1:decide (most<acc);rotate_left
  ·refine(aA h1)<|(zY) ?_;refine aF.exit ?_;exact(zV)<|zo [.tmp 4] (hq:=by rw[hall,ut (ww h1)])
  refine(aA h1)<|(zN) ?_
  rw[v6 (wt h1)] at hall
  refine(e9 @oi)<|(zK (ih (tZ most acc)))<|(cP @sJ)<|(aA (zi hlt hlen)) ?_;refine xu hlt (Cc acc (fC (.mk op' n' kids') (tZ most acc))) zH hall
def IV(f:bE)(hf:gC f)(most:Int):PC prog 102 [.ag (aE f),ab most] (·=ab (fC f most)):=vW _ f (b8 _) hf most
def qQ(op:Int):Nat:=if op=11 then 3 else if 5<=op then 2 else 0
mutual
def ga:bE->Bool
 | .mk op n kids=>(decide (1<=op)&&decide (op<=11))&&(decide (kids.length=qQ op)&&(!(decide (n<0))&&(!(decide (9999999<n))&&!(decide (0<n)&&!(decide (op=1))))))&&tM kids
def tM:List bE->Bool
 | []=>true
 | k::ks=>ga k&&tM ks
end
def sv:∀l:List bE,tM l=l.all ga
 | []=>by rw[tM];rfl
 | a::l=>by rw[tM,sv l,dl]
def vX:∀(d:Nat) (f:bE),SizeOf.sizeOf f<d->gC f->PC Tryz.prog 103 [.ag (aE f)] (·=ai (ga f))
 | 0,f,hd,_=>un hd (Nat.not_lt_zero _)
 | d+1,.mk op n kids,hd,hf=>by
  cases hf with
  | mk hlen hks=>
  have hkd:∀k∈kids,SizeOf.sizeOf k<d:=λk hk=>by
   have h1:=List.sizeOf_lt_of_mem hk
   have h2:SizeOf.sizeOf (bE.mk op n kids)=1+SizeOf.sizeOf op+SizeOf.sizeOf n+SizeOf.sizeOf kids:=by simp
   omega
  rw[dr,ga,sv];refine pB 59 Tryz.func103 ?_;refine(og) ?_
  (repeat refine aF.seq ?_)
  cases h1:decide (op<1);rotate_left
  ·refine aF.block ?_;exact(aA h1)<|(cL)<|zo [.tmp 2] (hq:=by rw[show decide (1<=op)=false by have:=ww h1;simp;omega];rfl)
  cases h2:decide (11<op);rotate_left
  ·refine aF.block ?_;exact(aA (bx h1 h2))<|(cL)<|zo [.tmp 2] (hq:=by rw[show decide (op<=11)=false by have:=ww h2;simp;omega,Bool.and_false];rfl)
  have g1:=wt h1;have g2:=wt h2;rw[show decide (1<=op)=true by simp;omega,show decide (op<=11)=true by simp;omega];refine aF.mono (Q:=λe st=>e=.normal/\Fg st ⟨[(1,.ptr 0 0),(3,qx (qQ op))],59,[.cells [ab op,ab n,.sl kids.length 3 (kids.flatMap aE)]],[]⟩) ?_ ?_
  ·refine aF.block ?_;refine(aA (bx h1 h2))<|(zN) ?_
   cases h3:decide (op=11);rotate_left
   ·refine(aA h3)<|(cL) ?_;exact⟨rfl,(Fg.less (by (simp only[cN,bL,fF,↓reduceIte,Nat.reduceEqDiff,qQ,ut (ww h3)])<;>(repeat' apply And.intro)<;>first | rfl | trivial) (by (simp only[cN,bL,or_true,true_or,qQ,ut (ww h3)])<;>(repeat' apply And.intro)<;>first | exact .inr rfl | exact .inl rfl | trivial))⟩
   refine(aA h3)<|(zN) ?_
   cases h4:decide (5<=op);rotate_left
   ·refine(aA h4)<|(cL) ?_;exact⟨rfl,(Fg.less (by (simp only[cN,bL,fF,↓reduceIte,Nat.reduceEqDiff,qQ,v6 (wt h3),ut (ww h4)])<;>(repeat' apply And.intro)<;>first | rfl | trivial) (by (simp only[cN,bL,or_true,true_or,qQ,v6 (wt h3),ut (ww h4)])<;>(repeat' apply And.intro)<;>first | exact .inr rfl | exact .inl rfl | trivial))⟩
   ·refine(aA h4)<|(zN) ?_;exact⟨rfl,(Fg.less (by (simp only[cN,bL,fF,↓reduceIte,Nat.reduceEqDiff,qQ,v6 (wt h3),v6 (wt h4)])<;>(repeat' apply And.intro)<;>first | rfl | trivial) (by (simp only[cN,bL,or_true,true_or,qQ,v6 (wt h3),v6 (wt h4)])<;>(repeat' apply And.intro)<;>first | exact .inr rfl | exact .inl rfl | trivial))⟩
  rintro e st ⟨rfl,hfg⟩;refine aF.fg hfg ?_;clear hfg
  (try change aF _ _ _ _ _)
  generalize qQ op=w;by_cases h3:kids.length=w;rotate_left
  ·rw[show decide (kids.length=w)=false by simpa using h3]
   exact(aA (show decide ((kids.length:Int)=(w:Int))=false by simp;omega))<|(cL)<|zo [.tmp 2]
  rw[show decide (kids.length=w)=true by simpa using h3]
  have h3':decide ((kids.length:Int)=(w:Int))=true:=by simp;omega
  cases h4:decide (n<0);rotate_left
  ·exact(aA (bx h3' h4))<|(cL)<|zo [.tmp 2]
  cases h5:decide (9999999<n);rotate_left
  ·exact(aA (cO h3' h4 h5))<|(cL)<|zo [.tmp 2]
  by_cases h7:(decide (0<n)&&!(decide (op=1)))=true
  ·rw[Bool.and_eq_true,Bool.not_eq_true'] at h7
   exact(aA (na h3' h4 h5 @h7.1 @h7.2))<|(cL)<|zo [.tmp 2] (hq:=by rw[h7.1,h7.2];rfl)
  have h8:(decide (0<n)&&!(decide (op=1)))=false:=by simpa using h7
  rw[h8]
  (repeat refine aF.seq ?_)
  refine aF.mono (Q:=λe st=>e=.normal/\Fg st ⟨[(1,.ptr 0 0),(47,ai false)],59,[.cells [ab op,ab n,.sl kids.length 3 (kids.flatMap aE)]],[]⟩) ?_ ?_
  ·cases h6:decide (0<n)
   ·refine(aA (gr h3' h4 h5 h6)) ?_;exact⟨rfl,zH⟩
   ·rw[h6] at h8
    have h9:decide (op=1)=true:=by
     cases h:decide (op=1) with
     | true=>rfl
     | false=>rw[h] at h8;cases h8
    refine(aA (na h3' h4 h5 h6 h9)) ?_;exact⟨rfl,zH⟩
  rintro e st ⟨rfl,hfg⟩;refine aF.fg hfg ?_;clear hfg
  (try change aF _ _ _ _ _)
  refine(lf)<|(zs) ?_;refine zL kids (λk=>(kids.take k).all ga=true) (λk=>[(49,ak 3 kids aE),(50,ab kids.length),(51,ab k)]) (λk=>[]) zH zp ?_;intro k hk hall;refine zT kids k ?_ ?_;rintro rfl;rotate_left;intro x hx hlt;rotate_left
  ·refine(gh)<|(zV) ?_
   rw[List.take_length] at hall;exact zo [.tmp 2] (hq:=by rw[hall];rfl)
  have hxm:=List.mem_of_getElem? hx;have ih:=vX d x (hkd x hxm) (hks x hxm);have hxl:((kids.flatMap aE).drop (k*3)).take 3=aE x:=aT (e:=3) (enc:=aE) eX hx
  have hnext:ga x=true->(kids.take (k+1)).all ga=true:=λh=>by rw[c9 hx,List.all_append,hall];simp[h]
  have hbad:ga x=false->kids.all ga=false:=λh=>by rw[List.all_eq_false];exact⟨x,hxm,by rw[h];decide⟩
  obtain⟨op',n',kids'⟩:=x;simp only[dr] at hxl ih
  refine(gz)<|(aA (bx hlt hxl))<|(zC)<|(zK ih) ?_
  cases h10:ga (.mk op' n' kids')
  ·exact(zR)<|(cL)<|zo [.tmp 2] (hq:=by rw[hbad h10];rfl)
  refine(zR)<|(zN)<|(aA (zi hlt hlen)) ?_;refine zX hlt zH (hnext h10)
def Ac(f:bE)(hf:gC f):PC prog 103 [.ag (aE f)] (·=ai (ga f)):=vX _ f (b8 _) hf
def iB(f:bE):Bool:=decide (fC f 60<=60)&&ga f
def qM(f:bE)(hf:gC f):PC prog 43 [.ag (aE f)] (·=ai (Proofs.iB f)):=by
 have hn:=IV f hf 60;have hr:=Ac f hf;refine pB 10 Tryz.func43 ?_;have hv:Proofs.iB f=(decide (fC f 60<=60)&&ga f):=rfl;generalize fC f 60=N at hn hv;generalize ga f=R at hr hv;obtain⟨op,n,kids⟩:=f;rw[dr] at hn hr ⊢
 refine(jn)<|(zK hn) ?_
 cases h1:decide (N<=60)
 ·exact(cP h1)<|zo [.tmp 2] (hq:=by rw[hv,h1];rfl)
 exact(L5 h1)<|(zK hr)<|(zR)<|zo [.tmp 2] (hq:=by rw[hv,h1];rfl)
mutual
def mO(u:jo):bE->Int×Int
 | .mk op n kids=>
  if op=1 then (n,n) else if op<=4 then nz u op
  else match nF u kids with
   | a::b::l=>if op=11 then (match l with
    | c::_=>np a b c
    | []=>(0,0)) else applyN op a b
   | _=>(0,0)
def nF(u:jo):List bE->List (Int×Int)
 | []=>[]
 | k::ks=>mO u k::nF u ks
end
def JQ(p q r s:Int):gl (gl (gl p q) r) s<=eF (eF (eF p q) r) s:=by
 have h1:∀a b:Int,gl a b<=a:=λa b=>by unfold gl;split<;>omega
 have h2:∀a b:Int,a<=eF a b:=λa b=>by unfold eF;split<;>omega
 have:=h1 p q;have:=h1 (gl p q) r;have:=h1 (gl (gl p q) r) s;have:=h2 p q;have:=h2 (eF p q) r;have:=h2 (eF (eF p q) r) s;omega
def Cl(f:Int->Int->Int)(a b c d:Int):(fj f a b c d).1<=(fj f a b c d).2:=by
 unfold fj;split
 ·exact JQ _ _ _ _
 ·exact ce _
def join_le(a b c d:Int):(lU a b c d).1<=(lU a b c d).2:=by
 unfold lU;split
 ·exact JQ _ _ _ _
 ·exact ce _
def PB(l:List (Int×Int))(x:Int×Int)(h:l≠[]):(l.foldl iP x).1<=(l.foldl iP x).2:=by
 rcases List.eq_nil_or_concat l with rfl | ⟨a,y,rfl⟩
 ·exact un rfl h
 ·rw[List.concat_eq_append,ck];exact join_le _ _ _ _
def KS(a0 a1 b0 b1:Int):(jz a0 a1 b0 b1).1<=(jz a0 a1 b0 b1).2:=by
 unfold jz;by_cases h:lO a0 a1 b0 b1=[]
 ·rw[h];exact ce _
 ·exact PB _ _ h
def BE{a b c d:Int}(h1:a<=b)(h2:c<=d):gl a c<=gl b d/\eF a c<=eF b d:=by
 unfold gl eF;constructor<;>split<;>split<;>omega
def Ms(op:Int){a b:Int×Int}(ha:a.1<=a.2)(hb:b.1<=b.2):(applyN op a b).1<=(applyN op a b).2:=by
 unfold applyN;split
 ·exact Cl _ _ _ _ _
 split
 ·exact Cl _ _ _ _ _
 split
 ·exact Cl _ _ _ _ _
 split
 ·exact(BE ha hb).1
 split
 ·exact(BE ha hb).2
 ·exact KS _ _ _ _
def KK{a b c:Int×Int}(hb:b.1<=b.2)(hc:c.1<=c.2):(np a b c).1<=(np a b c).2:=by
 unfold np;split
 ·exact hb
 split
 ·exact hc
 ·exact join_le _ _ _ _
structure jo.ok (u:jo):Prop where
 a:u.u1<=u.u2
 b:u.u3<=u.u4
 c:u.u5<=u.u6
def Lc{u:jo}(h:u.ok)(op:Int):(nz u op).1<=(nz u op).2:=by
 unfold nz;split
 ·exact h.a
 split
 ·exact h.b
 ·exact h.c
mutual
def Km{u:jo}(h:u.ok):∀f:bE,(mO u f).1<=(mO u f).2
 | .mk op n kids=>by
  have ih:=Gb h kids;rw[mO];split
  ·exact ce _
  split
  ·exact Lc h op
  ·split
   ·rename_i a b l hl;rw[hl] at ih;split
    ·split
     ·exact KK (ih _ ge) (ih _ ge)
     ·exact ce _
    ·exact Ms op (ih _ ge) (ih _ ge)
   ·exact ce _
def Gb{u:jo}(h:u.ok):∀l:List bE,∀p∈nF u l,p.1<=p.2
 | [],p,hp=>by rw[nF] at hp;cases hp
 | k::ks,p,hp=>by
  rw[nF] at hp
  rcases t7 hp with rfl | hp
  ·exact Km h k
  ·exact Gb h ks p hp
end
def BH(P:Program)(nm:String)(t:TypeId)(v:AV)(ys:List AV):Ev.aR P (.a (.fn (.method nm) [.iface t v] ys))=(ja P t nm).map λ_=>.a (.fn (.method nm) [.iface t v] ys):=rfl
def pH(u:jo):SV:=.iface 203 (.ag (eg u))
def DO:ja prog 203 "bogie/formula.number"=some 348:=by kernel_rfl
def DN:ja prog 203 "bogie/formula.letter"=some 347:=by kernel_rfl
def vV:ja prog 203 "bogie/formula.apply"=some 345:=by kernel_rfl
def ui:ja prog 203 "bogie/formula.choose"=some 346:=by kernel_rfl
def B3(u:jo)(hu:u.ok):∀(d:Nat) (f:bE),SizeOf.sizeOf f<d->gC f->ga f=true->PC Tryz.prog 121 [pH u,.ag (aE f)] (·=od (mO u f))
 | 0,f,hd,_,_=>un hd (Nat.not_lt_zero _)
 | d+1,.mk op n kids,hd,hf,hr=>by
  cases hf with
  | mk hlen hks=>
  have hkd:∀k∈kids,SizeOf.sizeOf k<d:=λk hk=>by
   have h1:=List.sizeOf_lt_of_mem hk
   have h2:SizeOf.sizeOf (bE.mk op n kids)=1+SizeOf.sizeOf op+SizeOf.sizeOf n+SizeOf.sizeOf kids:=by simp
   omega
  rw[dr,mO]
  refine pB 67 Tryz.func121 ?_;refine(aA (bx @pH.eq_1 @eg.eq_1))<|(zB) ?_
  cases h1:decide (op=1);rotate_left
  ·refine(aA h1)<|(zY) ?_
   rw[ut (ww h1)]
   exact(zC)<|(zK (DR u n) (hc:=Ef @DO))<|(cP (bx @od.eq_1 @kT.eq_1))<|zo [.cell 4 52]
  rw[v6 (wt h1)]
  refine(aA h1)<|(zN) ?_
  cases h2:decide (op<=4);rotate_left
  ·refine(aA h2)<|(zY) ?_
   rw[ut (ww h2)]
   exact(zC)<|(zK (DL u op) (hc:=Ef @DN))<|(cP (bx @od.eq_1 @kT.eq_1))<|zo [.cell 4 52]
  rw[v6 (wt h2)]
  refine(aA h2)<|(zN) ?_
  rw[ga,Bool.and_eq_true,Bool.and_eq_true,Bool.and_eq_true,Bool.and_eq_true] at hr;obtain⟨⟨hr1,hr2,_⟩,hr3⟩:=hr;have hop1:=ww hr1.1;have hop2:=ww hr1.2;have hkl:=ww hr2;have h1':=wt h1;have h2':=wt h2;rw[sv] at hr3;have n0:dj (.int .i64 0)=some 0:=rfl;have n1:dj (.int .i64 1)=some 1:=rfl;have n2:dj (.int .i64 2)=some 2:=rfl
  have hkid:∀{j:Nat} {x:bE},kids[j]?=some x->PC Tryz.prog 121 [pH u,.ag (aE x)] (·=od (mO u x)):=λ{j x} hx=>by
   have hxm:=List.mem_of_getElem? hx;exact B3 u hu d x (hkd x hxm) (hks x hxm) (List.all_eq_true.1 hr3 x hxm)
  have hat:∀{j:Nat} {x:bE},kids[j]?=some x->((kids.flatMap aE).drop (j*3)).take 3=aE x:=λhx=>aT (e:=3) (enc:=aE) eX hx;cases h3:decide (op=11)
  ·have h3':=wt h3
   have hw:kids.length=2:=by rw[hkl,qQ,v6 h3',ut i4]
   obtain⟨x0,x1,hk2⟩:∃x0 x1,kids=[x0,x1]:=by
    match kids,hw with
    | [a,b],_=>exact⟨a,b,rfl⟩
   have e0:kids[0]?=some x0:=by rw[hk2];rfl
   have e1:kids[1]?=some x1:=by rw[hk2];rfl
   have hrun:nF u kids=[mO u x0,mO u x1]:=by rw[hk2,nF,nF,nF]
   rw[hrun];simp only[v6 h3'];have hb:=Km hu x1;have a0:=hat e0;have a1:=hat e1;have k0:=hkid e0;have k1:=hkid e1
   have t0:(kids.flatMap aE).take 3=aE x0:=by rwa [Nat.zero_mul,List.drop_zero] at a0
   rw[pH,eg] at k0 k1;generalize mO u x0=r0 at k0 ⊢;generalize mO u x1=r1 at k1 hb ⊢;obtain⟨o0,m0,s0⟩:=x0;obtain⟨o1,m1,s1⟩:=x1;rw[dr] at t0 a1 k0 k1
   have l0:0<kids.length:=by omega
   have l1:1<kids.length:=by omega
   refine(aA h3)<|(zN)<|(zs) ?_;refine oe [0,0,2,0,0,16,48,112,248,0,0,1024,3072,7168,16376,1,32769,98305,262143,524287] ?_;refine(uA (cO n0 l0 t0))<|(xv (k0))<|(uA (cO n1 l1 a1))<|(xv (k1))<|(uA (cO @dx.eq_28 @BH @vV)) ?_;refine SD.k ii rfl rfl ii rfl rfl (Ef @vV) (Gf u op r0 r1 hb) (zw) rfl ?_;refine SD.e ii rfl ii rfl rfl ii zl ?_;exact(zM)<|zo [.cell 4 52]
  ·have h3':=ww h3
   have hw:kids.length=3:=by rw[hkl,qQ,ut h3']
   obtain⟨x0,x1,x2,hk2⟩:∃x0 x1 x2,kids=[x0,x1,x2]:=by
    match kids,hw with
    | [a,b,c],_=>exact⟨a,b,c,rfl⟩
   have e0:kids[0]?=some x0:=by rw[hk2];rfl
   have e1:kids[1]?=some x1:=by rw[hk2];rfl
   have e2:kids[2]?=some x2:=by rw[hk2];rfl
   have hrun:nF u kids=[mO u x0,mO u x1,mO u x2]:=by rw[hk2,nF,nF,nF,nF]
   rw[hrun];simp only[ut h3'];have a0:=hat e0;have a1:=hat e1;have a2:=hat e2;have k0:=hkid e0;have k1:=hkid e1;have k2:=hkid e2
   have t0:(kids.flatMap aE).take 3=aE x0:=by rwa [Nat.zero_mul,List.drop_zero] at a0
   rw[pH,eg] at k0 k1 k2;generalize mO u x0=r0 at k0 ⊢;generalize mO u x1=r1 at k1 ⊢;generalize mO u x2=r2 at k2 ⊢;obtain⟨o0,m0,s0⟩:=x0;obtain⟨o1,m1,s1⟩:=x1;obtain⟨o2,m2,s2⟩:=x2;rw[dr] at t0 a1 a2 k0 k1 k2
   have l0:0<kids.length:=by omega
   have l1:1<kids.length:=by omega
   have l2:2<kids.length:=by omega
   refine(aA h3)<|(zY)<|(zs) ?_;refine oe [0,0,0,4,12,28,62,0,0,256,768,1792,4094,0,0,16384,49152,114688,262142,1,524289,1572865,4194303,8388607] ?_;refine(uA (cO n0 l0 t0))<|(xv (k0))<|(uA (cO n1 l1 a1))<|(xv (k1))<|(uA (cO n2 l2 a2))<|(xv (k2))<|(uA (cO @dx.eq_28 @BH @ui)) ?_;refine SD.k ii rfl rfl ii rfl rfl (Ef @ui) (Du u r0 r1 r2) (zw) rfl ?_;refine SD.e ii rfl ii rfl rfl ii zl ?_;exact(zM)<|zo [.cell 4 52]
def OH(u:jo)(hu:u.ok)(f:bE)(hf:gC f)(hr:ga f=true):PC prog 121 [pH u,.ag (aE f)] (·=od (mO u f)):=B3 u hu _ f (b8 _) hf hr
def jo.K5(u:jo):Bool:=jD u.u1 u.u2&&(jD u.u3 u.u4&&jD u.u5 u.u6)
def qU(f:bE)(u:jo):Int×Int:=if u.K5=true/\iB f=true then (eF 0 (mO u f).1,eF 0 (mO u f).2) else (0,0)
def HP{a b:Int}(h:jD a b=true):a<=b:=by
 unfold jD at h;simp only[ac,bd,wn] at h;omega
def jo.PD{u:jo}(h:u.K5=true):u.ok:=by
 unfold jo.K5 at h;simp only[ac] at h;exact⟨HP h.1,HP h.2.1,HP h.2.2⟩
def Gl(f:bE)(u:jo)(hf:gC f):PC prog 49 [.ag (aE f),.ag (eg u)] (·=od (qU f u)):=by
 have hv:=qM f hf;have hr:=λh1 h2=>OH u h1 f hf h2
 have hd:qU f u=if u.K5=true/\Proofs.iB f=true then (eF 0 (mO u f).1,eF 0 (mO u f).2) else (0,0):=rfl
 have hvr:Proofs.iB f=true->ga f=true:=λh=>by unfold Proofs.iB at h;simp only[ac] at h;exact h.2
 generalize Proofs.iB f=V at hv hd hvr;generalize ga f=R at hr hvr;generalize mO u f=r at hr hd;obtain⟨op,n,kids⟩:=f;rw[dr] at hv hr ⊢;obtain⟨ivs,hivs⟩:∃l:List (Int×Int),l=[(u.u1,u.u2),(u.u3,u.u4),(u.u5,u.u6)]:=⟨_,rfl⟩
 have hgood:u.K5=ivs.all λp=>jD p.1 p.2:=by rw[hivs];simp[jo.K5]
 have hkc:∀(o:Nat) (l:List (Int×Int)),(l.flatMap cT).map (aO o)=l.flatMap cT:=λo l=>bF mg o l;have hcl:=bg qY ivs
 have hlen:ivs.length<=1000:=by rw[hivs];simp
 refine pB 53 Tryz.func49 ?_;refine(aA @eg.eq_1)<|(zV)<|(zs) ?_;refine zL ivs (λk=>(ivs.take k).all (λp=>jD p.1 p.2)=true) (λk=>[(2,.ptr 0 0),(3,.ptr 1 0),(4,.ptr 2 0),(14,.buf 3 ivs.length 2 (some 3)),(15,ab ivs.length),(16,ab k)]) (λk=>[.cells [ab op,ab n,.sl kids.length 3 (kids.flatMap aE)],.cells (eg u),.cells [ab 0,ab 0],.cells (ivs.flatMap cT)]) (cm (OV @eg.eq_1 hivs @i7.{0} @i5.{0} @flatMap_cons.{0,0} @flatMap_nil.{0,0} @cT.eq_1 @cons_append.{0} @nil_append.{0})) zp ?_;intro k hk hall;refine zT ivs k ?_ ?_;rintro rfl;rotate_left;intro x hx hlt;rotate_left
 ·refine(gh) ?_;rw[a8] at hall;rw[<-hgood] at hall
  refine(e9 @eg.eq_1)<|(zK hv) ?_
  cases hV:V
  ·exact(zR)<|(cL)<|zo [.cell 4 52] (hq:=by rw[hd,v6 (by rw[hV];simp)];rfl)
  refine(zR)<|(zN) ?_
  have hrr:=hr (jo.PD hall) (hvr hV);rw[pH,eg] at hrr
  exact(e9 @eg.eq_1)<|(zK hrr)<|(cP (bx @od.eq_1 @kT.eq_1))<|(aA @fk)<|zo [.cell 4 52] (hq:=by rw[hd,ut ⟨hall,hV⟩];rfl)
 have hnext:jD x.1 x.2=true->(ivs.take (k+1)).all (λp=>jD p.1 p.2)=true:=λh=>by rw[c9 hx,cg,hall];simp[h]
 have hbad:jD x.1 x.2=false->qU (.mk op n kids) u=(0,0):=λh=>by
  rw[hd,v6];rintro⟨h2,_⟩;rw[hgood] at h2;have:=all_eq_true.1 h2 x (aL hx);rw[h] at this;cases this
 refine(gz)<|(aA (He hlt (aT (e:=2) (enc:=cT) gc hx) @cT.eq_1 @eg.eq_1 hcl hkc (show k*2+2<=ivs.length*2 by omega))) ?_
 cases g1:decide (x.1<0);rotate_left
 ·exact(aA g1)<|(cL)<|zo [.cell 4 52] (hq:=by rw[hbad (by rw[jD,g1];rfl)];rfl)
 cases g2:decide (x.2<x.1);rotate_left
 ·exact(aA (bx g1 g2))<|(cL)<|zo [.cell 4 52] (hq:=by rw[hbad (by rw[jD,g1,g2];rfl)];rfl)
 cases g3:decide (1000000<x.2);rotate_left
 ·exact(aA (cO g1 g2 g3))<|(cL)<|zo [.cell 4 52] (hq:=by rw[hbad (by rw[jD,g1,g2,g3];rfl)];rfl)
 refine(aA (cO g1 g2 g3))<|(zN)<|(aA (zi hlt (show ivs.length<=1000000 by omega))) ?_;refine zX hlt (cm (bx hkc @eg.eq_1)) (hnext (by rw[jD,g1,g2,g3];rfl))
def q8(h:∀x,(enc x).all eM=true)(l:List α):(l.flatMap enc).all eM=true:=by
 rw[List.all_flatMap,all_eq_true];exact λx _=>h x
def dA(p:ao):bV (ae p)=true:=rfl
def gJ(p:bO):bV (aI p)=true:=rfl
def JB(l:List bC):(l.flatMap ar).all eM=true:=q8 (λ_=>rfl) l
def BK(l:List ao):(l.flatMap ae).all eM=true:=q8 (λ_=>rfl) l
def BL(l:List bO):(l.flatMap aI).all eM=true:=q8 (λ_=>rfl) l
def wD:SC prog 50 [ak 14 ([]:List ao) ae] [] [] (λr S'=>r=.e0 14/\S'=[]):=by
 refine LB 8 func50 ?_;refine(jn) ?_;refine aK.Ll ii rfl rfl ii rfl rfl (by simp only[aB]) zW ?_;intro b _;refine(zR) ?_;cases b
 ·refine(lf) ?_;refine aF.fg (Fg.e0 2 14 (.inr ⟨0,rfl⟩)) ?_;refine zA [(2,.e0 14)] [] zH<|(zE) ?_;exact zP [.tmp 2]
 ·refine(cL) ?_;refine aF.fg (Fg.e0 2 14 (.inl rfl)) ?_;refine(zE) ?_;exact zP [.tmp 2]
def pV(l:List ao)(hlen:l.length<=1000000)(hne:l≠[]):SC prog 50 [ak 14 l ae] [] [] (λr S'=>r=.buf 1 l.length 14 none/\S'=[.gone,.cells (l.flatMap ae)]):=by
 have h0:¬l.length=0:=λe=>hne (t8 e);refine LB 8 func50 ?_;have hkc:=λo=>bF (enc:=ae) dA o l;have hon:(l.flatMap ae).all eM=true:=BK l;refine(jn) ?_;refine aK.Ll ii rfl rfl ii rfl rfl (by simp only[aB]) zW ?_;intro b hb;cases b;rotate_left
 ·exact un (hb rfl) h0
 refine(zR)<|(zN) ?_
 have hp0:0<l.length:=bw h0
 refine(aA (xO h0 hp0 hlen hon hkc @aa))<|zA [(2,.buf 1 l.length 14 none)] [.gone,.cells (l.flatMap ae)] zH<|(zE) ?_;exact zP [.tmp 2]
def wG:SC prog 199 [ak 2 ([]:List bO) aI] [] [] (λr S'=>r=.e0 2/\S'=[]):=by
 refine LB 8 func199 ?_;refine(jn) ?_;refine aK.Ll ii rfl rfl ii rfl rfl (by simp only[aB]) zW ?_;intro b _;refine(zR) ?_;cases b
 ·refine(lf) ?_;refine aF.fg (Fg.e0 2 2 (.inr ⟨0,rfl⟩)) ?_;refine zA [(2,.e0 2)] [] zH<|(zE) ?_;exact zP [.tmp 2]
 ·refine(cL) ?_;refine aF.fg (Fg.e0 2 2 (.inl rfl)) ?_;refine(zE) ?_;exact zP [.tmp 2]
def wH(l:List bO)(hlen:l.length<=1000000)(hne:l≠[]):SC prog 199 [ak 2 l aI] [] [] (λr S'=>r=.buf 1 l.length 2 none/\S'=[.gone,.cells (l.flatMap aI)]):=by
 have h0:¬l.length=0:=λe=>hne (t8 e);refine LB 8 func199 ?_;have hkc:=λo=>bF (enc:=aI) gJ o l;have hon:(l.flatMap aI).all eM=true:=BL l;refine(jn) ?_;refine aK.Ll ii rfl rfl ii rfl rfl (by simp only[aB]) zW ?_;intro b hb;cases b;rotate_left
 ·exact un (hb rfl) h0
 refine(zR)<|(zN) ?_
 have hp0:0<l.length:=bw h0
 refine(aA (xO h0 hp0 hlen hon hkc @aa))<|zA [(2,.buf 1 l.length 2 none)] [.gone,.cells (l.flatMap aI)] zH<|(zE) ?_;exact zP [.tmp 2]
def rV:SC prog 45 [ak 14 ([]:List bC) ar] [] [] (λr S'=>r=.e0 14/\S'=[]):=by
 refine LB 8 func45 ?_;refine(jn) ?_;refine aK.Ll ii rfl rfl ii rfl rfl (by simp only[aB]) zW ?_;intro b _;refine(zR) ?_;cases b
 ·refine(lf) ?_;refine aF.fg (Fg.e0 2 14 (.inr ⟨0,rfl⟩)) ?_;refine zA [(2,.e0 14)] [] zH<|(zE) ?_;exact zP [.tmp 2]
 ·refine(cL) ?_;refine aF.fg (Fg.e0 2 14 (.inl rfl)) ?_;refine(zE) ?_;exact zP [.tmp 2]
def rW(l:List bC)(hlen:l.length<=1000000)(hne:l≠[]):SC prog 45 [ak 14 l ar] [] [] (λr S'=>r=.buf 1 l.length 14 none/\S'=[.gone,.cells (l.flatMap ar)]):=by
 have h0:¬l.length=0:=λe=>hne (t8 e);refine LB 8 func45 ?_;have hkc:=λo=>bF (enc:=ar) bY o l;have hon:(l.flatMap ar).all eM=true:=JB l;refine(jn) ?_;refine aK.Ll ii rfl rfl ii rfl rfl (by simp only[aB]) zW ?_;intro b hb;cases b;rotate_left
 ·exact un (hb rfl) h0
 refine(zR)<|(zN) ?_
 have hp0:0<l.length:=bw h0
 refine(aA (xO h0 hp0 hlen hon hkc @aa))<|zA [(2,.buf 1 l.length 14 none)] [.gone,.cells (l.flatMap ar)] zH<|(zE) ?_;exact zP [.tmp 2]
section
variable {α:Type} {enc:α->List SV} {e:Nat}
def jf(he:∀x,(enc x).length=e):∀(l:List α) (i:Nat),(l.flatMap enc).take (i*e)=(l.take i).flatMap enc
 | [],i=>by simp
 | a::l,0=>by simp
 | a::l,i+1=>by
  rw[flatMap_cons,ch,ct,List.take_succ_cons,flatMap_cons,<-jf he l i];rw[d3,he,show e+i*e-e=i*e by omega,aj (by rw[he];omega)]
def pn(he:∀x,(enc x).length=e):∀(l:List α) (i:Nat),(l.flatMap enc).drop (i*e)=(l.drop i).flatMap enc
 | [],i=>by simp
 | a::l,0=>by simp
 | a::l,i+1=>by
  rw[flatMap_cons,ch,ct,List.drop_succ_cons,<-pn he l i];rw[List.drop_append,he,show e+i*e-e=i*e by omega,aS (by rw[he];omega),nil_append]
def q9(he:∀x,(enc x).length=e){l:List α}(y:α)(h:i<l.length):(l.flatMap enc).take (i*e)++(enc y++(l.flatMap enc).drop (i*e+e))=(l.set i y).flatMap enc:=by
 rw[jf he,show i*e+e=(i+1)*e by rw[ch],pn he,bb,ut h,ba,flatMap_cons]
end
def wm{α:Type}(lt:α->α->Bool):Nat->List α->List α
 | 0,l=>l
 | j+1,l=>match l[j+1]?,l[j]? with
  | some x,some y=>if lt x y=true then wm lt j ((l.set (j+1) y).set j x) else l
  | _,_=>l
def CK{α:Type}(lt:α->α->Bool):Nat->Nat->List α->List α
 | 0,_,l=>l
 | n+1,i,l=>CK lt n (i+1) (wm lt i l)
def Aw(lt:α->α->Bool)(l:List α):List α:=CK lt (l.length-1) 1 l
def EB{α:Type}{lt:α->α->Bool}:∀(j:Nat) (l:List α),(wm lt j l).length=l.length
 | 0,l=>rfl
 | j+1,l=>by
  unfold wm;split
  ·split
   ·rw[EB j,a7,a7]
   ·rfl
  ·rfl
def Fc{α:Type}{lt:α->α->Bool}:∀(n i:Nat) (l:List α),(CK lt n i l).length=l.length
 | 0,_,_=>rfl
 | n+1,i,l=>by rw[CK,Fc n,EB]
def ym(lt:α->α->Bool)(l:List α):(Aw lt l).length=l.length:=Fc _ _ _
def swap_perm{j:Nat}{x y:α}(hx:l[j+1]?=some x)(hy:l[j]?=some y):((l.set (j+1) y).set j x).Perm l:=by
 have h1:j+1<l.length:=br hx
 have h0:j<l.length:=by omega
 have e:l=l.take j++(y::x::l.drop (j+2)):=by
  have a1:l.drop j=y::l.drop (j+1):=eW hy;have a2:l.drop (j+1)=x::l.drop (j+2):=eW hx;rw[<-a2,<-a1,List.take_append_drop]
 have hlt:(l.take j).length=j:=by rw[ad];omega
 have e2:(l.set (j+1) y).set j x=l.take j++(x::y::l.drop (j+2)):=by
  apply dt;intro i;rw[dv,List.getElem?_append,hlt];by_cases c1:j=i
  ·subst c1;rw[ut rfl,a7,ut h0,v6 (d9 _),d0];rfl
  ·rw[v6 c1,dv];by_cases c2:j+1=i
   ·subst c2;rw[ut rfl,ut h1,v6 i4,show j+1-j=1 by omega];rfl
   ·rw[v6 c2];by_cases c3:i<j
    ·rw[ut c3,dd,ut c3]
    ·rw[v6 c3,show i-j=(i-(j+2))+2 by omega,be,be,ci,show j+2+(i-(j+2))=i by omega]
 rw[e2]
 conv=>rhs;rw[e]
 exact Perm.append_left _ (Perm.swap _ _ _)
def Bd{α:Type}{lt:α->α->Bool}:∀(j:Nat) (l:List α),(wm lt j l).Perm l
 | 0,l=>Perm.refl _
 | j+1,l=>by
  unfold wm;split
  ·rename_i x y hx hy;split
   ·exact(Bd j _).trans (swap_perm hx hy)
   ·exact Perm.refl _
  ·exact Perm.refl _
def Bt{α:Type}{lt:α->α->Bool}:∀(n i:Nat) (l:List α),(CK lt n i l).Perm l
 | 0,_,_=>Perm.refl _
 | n+1,i,l=>by rw[CK];exact(Bt n (i+1) _).trans (Bd i l)
def uT(lt:α->α->Bool)(l:List α):(Aw lt l).Perm l:=Bt _ _ _
def rL(cmp:bC->bC->Int)(x y:bC):Bool:=decide (cmp x y<0)
def II(g:FuncId)(cmp:bC->bC->Int)(hg:∀x y,PC prog g [.ag (ar x),.ag (ar y)] (·=ab (cmp x y)))(c:Option Nat)(l:List bC)(hlen:l.length<=100000):
 SC prog 305 [.buf 0 l.length 14 c,ab 0,ab l.length,.fn g [] []] [.cells (l.flatMap ar)] [] (λr S'=>r=.cA []/\S'=[.cells ((Aw (rL cmp) l).flatMap ar)]):=by
 refine Ot 53 Tryz.func305 ?_;refine(zV) ?_
 (repeat refine aF.seq ?_)
 refine aF.block (aF.loop (λm st=>∃(i:Nat) (q:List bC),(q.length=l.length/\(i+1<=l.length\/i=0))/\Aw (rL cmp) l=CK (rL cmp) (l.length-(i+1)) (i+1) q/\l.length-i=m/\st=⟨[(0,.buf 0 l.length 14 c),(1,ab 0),(2,ab l.length),(3,.fn g [] []),(8,qx (i+1)),(1000000,.ptr 0 0)],53,[.cells (q.flatMap ar)],[]⟩) l.length zH ⟨0,l,⟨rfl,.inr rfl⟩,rfl,b9 _,rfl⟩ (by rintro m st ⟨i,q,_,_,_,rfl⟩;rfl) ?_);rintro m st ⟨i,q,⟨hql,hi⟩,hres,rfl,rfl⟩;refine(zV) ?_;by_cases hlt:i+1<l.length;rotate_left
 ·rw[show decide (((i+1:Nat):Int)<(l.length:Int))=false by simp only[wn];omega]
  refine(zN)<|zA [(1000000,.ptr 0 0)] [.cells (q.flatMap ar)] zH ?_;refine aF.exit ?_
  simp only[eV,dh,cq,bP,if_true];rw[show l.length-(i+1)=0 by omega,CK] at hres;exact zP [] (hq:=by (try simp only[ez,bK]);first | done | (rw[hres];first | exact⟨rfl,rfl⟩ | exact⟨trivial,rfl⟩ | exact⟨rfl,trivial⟩ | exact⟨trivial,trivial⟩))
 rw[show decide (((i+1:Nat):Int)<(l.length:Int))=true by simp only[wp];omega]
 refine(gz)<|(zV) ?_
 obtain⟨s,hs⟩:∃s,l.length-(i+1)=s+1:=⟨l.length-(i+1)-1,by omega⟩;rw[hs,CK] at hres
 (repeat refine aF.seq ?_)
 refine aF.block (aF.loop (λm st=>∃(j:Nat) (p:List bC),(p.length=l.length/\j<=i+1)/\wm (rL cmp) (i+1) q=wm (rL cmp) j p/\j=m/\st=⟨[(0,.buf 0 l.length 14 c),(1,ab 0),(2,ab l.length),(3,.fn g [] []),(8,qx (i+1)),(9,qx j),(1000000,.ptr 0 0)],53,[.cells (p.flatMap ar)],[]⟩) (i+1) zH ⟨i+1,q,⟨hql,aa _⟩,rfl,rfl,rfl⟩ (by rintro m st ⟨j,p,_,_,_,rfl⟩;rfl) ?_);rintro m st ⟨j,p,⟨hpl,hj⟩,hb,rfl,rfl⟩;have hil:i+1<l.length:=hlt
 have hcl:(p.flatMap ar).length=l.length*14:=by rw[bg cK,hpl]
 cases j with
 | zero=>
  refine(zs) ?_;refine oe [0,0,3,7,15,15,15,111,239,15,15,1039,3599,7695,16383,32767,65535] ?_;refine(uA (show decide ((0:Int)<((0:Nat):Int))=false from rfl))<|(zM)<|(gh)<|(aA (Ee (show -9223372036854775808<=((i+1:Nat):Int)+1/\((i+1:Nat):Int)+1<=9223372036854775807 from⟨by omega,by omega⟩))) ?_;exact⟨l.length-(i+1),_,by omega,zH,i+1,p,⟨hpl,.inl i4⟩,by rw[hres,hb,wm,show l.length-(i+1+1)=s by omega],rfl,rfl⟩
 | succ j=>
  have hj1:j+1<l.length:=by omega
  have hj0:j<l.length:=by omega
  obtain⟨x,hx⟩:∃x,p[j+1]?=some x:=⟨p[j+1],jp i4⟩;obtain⟨y,hy⟩:∃y,p[j]?=some y:=⟨p[j],jp i4⟩;have ax:((p.flatMap ar).drop ((j+1)*14)).take 14=ar x:=aT (e:=14) (enc:=ar) cK hx;have ay:((p.flatMap ar).drop (j*14)).take 14=ar y:=aT (e:=14) (enc:=ar) cK hy
  have hbs:wm (rL cmp) (j+1) p=if rL cmp x y=true then wm (rL cmp) j ((p.set (j+1) y).set j x) else p:=by rw[wm,hx,hy]
  have s1:=q9 (enc:=ar) cK (l:=p) (i:=j+1) y i4;have s2:=q9 (enc:=ar) cK (l:=p.set (j+1) y) (i:=j) x (by rw[a7];omega)
  have hcl2:((p.set (j+1) y).flatMap ar).length=l.length*14:=by rw[bg cK,a7,hpl]
  rw[dz y] at s1 ay;rw[dz x] at s2 ax;simp only[cons_append,nil_append] at s1 s2;have hgx:=hg x y;rw[dz y,dz x] at hgx
  refine(zs) ?_;refine oe [0,0,3,7,15,15,15,111,239,15,15,1039,3599,7695,16383,32767,65535] ?_;refine(uA (MM (show decide ((0:Int)<((j+1:Nat):Int))=true from by simp only[wp];omega) hj1 hj0 (QQ (show -9223372036854775808<=((j+1:Nat):Int)-1/\((j+1:Nat):Int)-1<=9223372036854775807 from⟨by omega,by omega⟩)) (show((j+1:Nat):Int)-1=(j:Int) from by omega) hcl (show(j+1)*14+14<=l.length*14 by omega) (show j*14+14<=l.length*14 by omega) ax ay))<|(xv (hgx)) ?_
  cases hc:decide (cmp x y<0)
  ·rw[rL,hc,v6 g9] at hbs
   refine(uA hc)<|(zM)<|(gh)<|(aA (Ee (show -9223372036854775808<=((i+1:Nat):Int)+1/\((i+1:Nat):Int)+1<=9223372036854775807 from⟨by omega,by omega⟩))) ?_;exact⟨l.length-(i+1),_,by omega,zH,i+1,p,⟨hpl,.inl i4⟩,by rw[hres,hb,hbs,show l.length-(i+1+1)=s by omega],rfl,rfl⟩
  ·rw[rL,hc,ut rfl] at hbs
   refine(uA hc)<|(zM)<|(gz)<|(zs) ?_;refine oe [0,0,0,0,8,0,0,64,224,480,0,0,3072,7168,16355,32739,65535,131071] ?_;refine(uA (OV hj1 hj0 (QQ (show -9223372036854775808<=((j+1:Nat):Int)-1/\((j+1:Nat):Int)-1<=9223372036854775807 from⟨by omega,by omega⟩)) (show((j+1:Nat):Int)-1=(j:Int) from by omega) hcl (show(j+1)*14+14<=l.length*14 by omega) (show j*14+14<=l.length*14 by omega) ax ay)) ?_;refine SD.e ii rfl ii rfl rfl ii (mr (cO hcl (show(j+1)*14+14<=l.length*14 by omega) s1)) ?_;refine(uA (gr hj1 hj0 (QQ (show -9223372036854775808<=((j+1:Nat):Int)-1/\((j+1:Nat):Int)-1<=9223372036854775807 from⟨by omega,by omega⟩)) (show((j+1:Nat):Int)-1=(j:Int) from by omega))) ?_;refine SD.e ii rfl ii rfl rfl ii (mr (cO hcl2 (show j*14+14<=l.length*14 by omega) s2)) ?_;refine(zM)<|(aA (bx (QQ (show -9223372036854775808<=((j+1:Nat):Int)-1/\((j+1:Nat):Int)-1<=9223372036854775807 from⟨by omega,by omega⟩)) (show((j+1:Nat):Int)-1=(j:Int) from by omega))) ?_;exact⟨j,_,by omega,zH,j,(p.set (j+1) y).set j x,⟨by rw[a7,a7,hpl],by omega⟩,by rw[hb,hbs],rfl,rfl⟩
def GU(g:FuncId)(cmp:bC->bC->Int)(hg:∀x y,PC prog g [.ag (ar x),.ag (ar y)] (·=ab (cmp x y)))(c:Option Nat)(l:List bC)(hlen:l.length<20):
 SC prog 257 [.buf 0 l.length 14 c,ab l.length,.fn g [] []] [.cells (l.flatMap ar)] [] (λr S'=>r=.cA []/\S'=[.cells ((Aw (rL cmp) l).flatMap ar)]):=by
 have hins:=II g cmp hg c l i4;have hrc:∀(g:Nat->Nat) (l:List bC),mM g (l.flatMap ar)=l.flatMap ar:=λg l=>bq (aD bY l);have hbc:∀(B:Nat) (l:List bC),iG B (l.flatMap ar)=true:=λB l=>bQ (aD bY l);have hkc:∀(o:Nat) (l:List bC),(l.flatMap ar).map (aO o)=l.flatMap ar:=λo l=>bF bY o l
 have h1:decide ((20:Int)<=(l.length:Int))=false:=by simp only[wn];omega
 have h2:decide ((20:Int)<(l.length:Int))=false:=by simp only[wn];omega
 refine Ot 63 Tryz.func257 ?_;refine(og) ?_
 (repeat refine aF.seq ?_)
 refine aF.block (aF.loop (λm st=>m=0/\st=⟨[(0,.buf 0 l.length 14 c),(1,ab l.length),(2,.fn g [] []),(6,ab 20),(7,ab 0),(8,ab 20),(1000000,.ptr 0 0)],63,[.cells (l.flatMap ar)],[]⟩) 0 zH ⟨rfl,rfl⟩ (by rintro m st ⟨_,rfl⟩;rfl) ?_);rintro m st ⟨rfl,rfl⟩
 refine(aA h1)<|(gh) ?_
 (try change aF _ _ _ _ _)
 refine(zC) ?_;refine zS [0] (cO hrc hbc hkc) hins ?_;refine(zR) ?_
 (repeat refine aF.seq ?_)
 refine aF.block (aF.loop (λm st=>m=0/\st=⟨[(1,ab l.length),(6,ab 20),(1000000,.ptr 0 0)],63,[.cells ((Aw (rL cmp) l).flatMap ar)],[]⟩) 0 zH ⟨rfl,rfl⟩ (by rintro m st ⟨_,rfl⟩;rfl) ?_);rintro m st ⟨rfl,rfl⟩
 refine(aA h2)<|(gh) ?_
 simp only[eV,dh,cq,bP,if_true];exact zP []
def A4(g:FuncId)(cmp:bC->bC->Int)(hg:∀x y,PC prog g [.ag (ar x),.ag (ar y)] (·=ab (cmp x y)))(c:Option Nat)(l:List bC)(hlen:l.length<20):
 SC prog 185 [.buf 0 l.length 14 c,.fn g [] []] [.cells (l.flatMap ar)] [] (λr S'=>r=.cA []/\S'=[.cells ((Aw (rL cmp) l).flatMap ar)]):=by
 have hins:=GU g cmp hg c l hlen;have hrc:∀(g:Nat->Nat) (l:List bC),mM g (l.flatMap ar)=l.flatMap ar:=λg l=>bq (aD bY l);have hbc:∀(B:Nat) (l:List bC),iG B (l.flatMap ar)=true:=λB l=>bQ (aD bY l);have hkc:∀(o:Nat) (l:List bC),(l.flatMap ar).map (aO o)=l.flatMap ar:=λo l=>bF bY o l;refine Ot 9 Tryz.func185 ?_;refine(zC) ?_;refine zS [0] (cO hrc hbc hkc) hins ?_;refine(zR) ?_;exact zP []
def BZ(a:Int):PC prog 158 [ab a] (·=ai false):=by
 refine pB 6 Tryz.func158 ?_;exact(zV)<|(aA (show decide (a=a)=true from wl rfl))<|zo [.tmp 2]
def B0(a:List Nat):PC prog 159 [ah a] (·=ai false):=by
 refine pB 6 func159 ?_;exact(zV)<|(aA (show decide (a=a)=true from wl rfl))<|zo [.tmp 2]
def MR(a b:Int):Int:=if a<b then -1 else if b<a then 1 else 0
def AN(a b:Int):PC prog 78 [ab a,ab b] (·=ab (MR a b)):=by
 refine pB 20 Tryz.func78 ?_;refine(jn)<|(zK (BZ a))<|(zR)<|(zC)<|(zK (BZ b))<|(zR)<|(Ec)<|(Ec) ?_
 cases h1:decide (a<b);rotate_left
 ·exact(aA h1)<|(cL)<|zo [.tmp 4] (hq:=by rw[MR,ut (ww h1)])
 refine(aA h1)<|(zN) ?_
 cases h2:decide (b<a);rotate_left
 ·exact(aA h2)<|(cL)<|zo [.tmp 4] (hq:=by rw[MR,v6 (wt h1),ut (ww h2)])
 exact(aA h2)<|(lf)<|zo [.tmp 4] (hq:=by rw[MR,v6 (wt h1),v6 (wt h2)])
def wu(a b:List Nat):Int:=if gB a b=true then -1 else if a=b then 0 else 1
def rZ(a b:List Nat):PC prog 79 [ah a,ah b] (·=ab (wu a b)):=by
 refine pB 20 Tryz.func79 ?_;refine(jn)<|(zK (B0 a))<|(zR)<|(zC)<|(zK (B0 b))<|(zR)<|(Ec)<|(Ec) ?_
 cases h1:gB a b;rotate_left
 ·exact(aA h1)<|(cL)<|zo [.tmp 4] (hq:=by rw[wu,ut h1])
 refine(aA h1)<|(zN) ?_
 by_cases h2:a=b
 ·exact(aA (bx h1 (show uK a b=true by rw[lq];exact wl h2)))<|(lf)<|zo [.tmp 4] (hq:=by rw[wu,v6 (by rw[h1];decide),ut h2])
 ·exact(aA (bx h1 (show uK a b=false by rw[lq];exact wd h2)))<|(cL)<|zo [.tmp 4] (hq:=by rw[wu,v6 (by rw[h1];decide),v6 h2])
def xS(a b:bC):Int:=MR a.day b.day
def I8(a b:bC):PC prog 106 [.ag (ar a),.ag (ar b)] (·=ab (xS a b)):=by
 refine pB 10 Tryz.func106 ?_;exact(aA @ar.eq_1)<|(zC)<|(zK (AN a.day b.day))<|(zR)<|zo [.tmp 4]
def bC.vw:List AV:=[.int .i64 0,.int .i64 0,.str [],.str [],.str [],.str [],.str [],.str [],.int .i64 0,.int .i64 0,.int .i64 0,.int .i64 0,.int .i64 0,.int .i64 0]
def LU(n:Nat)(h:n<=1000000):ki prog 37 (.int .i64 (n:Int)) (.int .i64 (n:Int))=some (n,14,n,rep bC.vw n):=by
 have q1:(prog.info? 90).map (λi=>(i.size,ble i.bytes 10000))=some (14,true):=by kernel_rfl
 obtain⟨i,hi,e⟩:=Option.map_eq_some_iff.1 q1;have e1:i.size=14:=rc Prod.fst e;have e2:ble i.bytes 10000=true:=rc Prod.snd e;unfold ki;rw[show prog.underlying 37=some (.slice 90) by kernel_rfl];simp only;rw[show dj (.int .i64 (n:Int))=some n from rfl,m7,m7,hi,m7,show dq prog 90=some (.agg bC.vw) by simp only[aB];rfl,m7,e1,e2,fc (aa n),fc h];rfl
def su:∀n,(rep bC.vw n).map SV.a=(bc n bC.zero).flatMap ar
 | 0=>rfl
 | n+1=>by rw[rep,b5,su n,List.replicate_succ,flatMap_cons];rfl
def eJ(l:List bC):List bC:=Aw (rL xS) l
def A2(l:List bC)(hlen:l.length<20):PC prog 105 [ak 14 l ar,.fn 106 [] []] (·=ak 14 (eJ l) ar):=by
 have hst:=A4 106 xS I8 (some l.length) l hlen;have hrc:∀(g:Nat->Nat) (l:List bC),mM g (l.flatMap ar)=l.flatMap ar:=λg l=>bq (aD bY l);have hbc:∀(B:Nat) (l:List bC),iG B (l.flatMap ar)=true:=λB l=>bQ (aD bY l);have hkc:∀(o:Nat) (l:List bC),(l.flatMap ar).map (aO o)=l.flatMap ar:=λo l=>bF bY o l;refine pB 16 Tryz.func105 ?_;have hcl:=bg cK l
 have hzl:((bc l.length bC.zero).flatMap ar).length=l.length*14:=by rw[bg cK,bt]
 refine(zV)<|(aA (cO (LU l.length i4) @su hkc)) ?_
 (repeat refine aF.seq ?_)
 refine aF.mono (Q:=λe st=>e=.normal/\Fg st ⟨[(1,.fn 106 [] []),(5,.buf 0 l.length 14 (some l.length))],16,[.cells (l.flatMap ar)],[]⟩) ?_ ?_
 ·by_cases h0:l.length=0
  ·have hl:l=[]:=t8 h0;subst hl;refine(zV) ?_;exact⟨rfl,zH⟩
  ·have htk:(l.flatMap ar).take (l.length*14)=l.flatMap ar:=eD cK l;have hmin:Nat.min l.length l.length=l.length:=ef _;have hdr:((bc l.length bC.zero).flatMap ar).drop (l.length*14)=[]:=aS (by rw[hzl];exact aa _);refine(aA (MM h0 hmin htk hzl hcl @aa @JB hdr @em @append_nil.{0})) ?_;exact⟨rfl,zH⟩
 rintro e st ⟨rfl,hfg⟩;refine aF.fg hfg ?_;clear hfg
 (try change aF _ _ _ _ _)
 have hsl:(eJ l).length=l.length:=by unfold eJ;exact ym _ _
 refine(zC) ?_;refine zS [0] (cO hrc hbc hkc) hst ?_;exact(zR)<|(zV)<|zo [.tmp 4] (r:=.sl l.length 14 ((eJ l).flatMap ar)) (hw:=.buf rfl (by rw[<-hsl];rw[show Aw (rL xS) l=eJ l from rfl,eD cK];exact cC.refl (aD bY _)) (by rw[show Aw (rL xS) l=eJ l from rfl,bg cK,hsl];exact aa _)) (hq:=by rw[ak,hsl])
def vZ(l:List bC)(hlen:l.length<20):PC prog 47 [ak 14 l ar] (·=ak 14 (eJ l) ar):=by
 refine pB 5 Tryz.func47 ?_;exact(jn)<|(zK (A2 l hlen) (hfl:=.inr zr))<|(zR)<|zo [.tmp 2] (r:=ak 14 (eJ l) ar) (hw:=Wk.refl rfl)
variable{fid:FuncId}{first:List SV}{cap:List SV}
open Go.Proofs.Tryz renaming func104 -> vaa in
open Go.Ev renaming vc -> vab in
open Go.Proofs renaming ar -> vac in
def z7{l:List (bC)}(p:bC->Bool)(hlen:l.length<=1000000)(hp:∀x∈l,PC prog fid ((first++[.ag (ar x)])++cap) (·=ai (p x)))(hg:bV first=true/\bV cap=true):PC prog 104 [ak 14 l ar,.fn fid first cap] (·=ab (fP p l)):=by
 have vad:=@ar.eq_1;exact JD
def wh:∀n,(rep bC.vw n).all jR=true
 | 0=>rfl
 | n+1=>by rw[rep,cg,wh n];rfl
def Bp{p:α->Bool}(h:fP p l ≠ -1):∃(k:Nat) (x:α),fP p l=(k:Int)/\l[k]?=some x/\p x=true/\∀(i:Nat) y,i<k->l[i]?=some y->p y=false:=by
 unfold fP at h ⊢
 cases hf:l.findIdx? p with
 | none=>rw[hf] at h;exact un rfl h
 | some k=>
  rw[List.findIdx?_eq_some_iff_getElem] at hf;obtain⟨hlt,h1,h2⟩:=hf;refine⟨k,l[k],rfl,jp hlt,h1,λi y hi hy=>?_⟩;have:=h2 i hi;rw[jp i4] at hy;cases hy;simpa using this
def Bq{p:α->Bool}(h:fP p l = -1):∀x∈l,p x=false:=by
 unfold fP at h
 cases hf:l.findIdx? p with
 | none=>
  rw[List.findIdx?_eq_none_iff] at hf;exact hf
 | some k=>rw[hf] at h;simp only at h;omega
def dV(d:bC->Bool)(l:List bC):List bC:=l.filter λx=>!d x
def Ff(d:bC->Bool)(l:List bC):(dV d l).length<=l.length:=List.length_filter_le _ _
def Fe{d:bC->Bool}{l:List bC}(h:∀x∈l,d x=false):dV d l=l:=by
 unfold dV;rw[List.filter_eq_self];intro x hx;rw[h x hx];rfl
def Bw{d:bC->Bool}{l:List bC}{j:Nat}{x:bC}(h:l[j]?=some x):dV d (l.take (j+1))=dV d (l.take j)++(if d x=true then [] else [x]):=by
 unfold dV;rw[c9 h,List.filter_append];cases hd:d x<;>simp[hd]
def zx(g:FuncId)(c2:List SV)(hg:bV c2=true)(d:bC->Bool)(hp:∀x,PC prog g [.ag (ar x),.ip c2] (·=ai (d x))):
 SC prog 44 [.e0 14,.fn g [] [.ptr 0 0]] [.cells c2] [] (λr S'=>r=.e0 14/\S'=[.cells c2]):=by
 have hidx:=z7 (l:=[]) d (fid:=g) (first:=[]) (cap:=[.ip c2]) ge (λx hx=>hp x) ⟨rfl,rfl⟩;rw[show fP d [] = -1 from rfl] at hidx
 refine Ot 42 func44 ?_;refine(jn)<|(zK hidx (hwk:=.cons (.Ss 14) (.cons (.fn .nil (.cons (.ptr rfl (cC.refl hg) (bk _)) .nil)) .nil)))<|(zR)<|(wO)<|(zV)<|(zE) ?_;exact Kw.of (rs:=[.tmp 4]) rfl rfl zl Ve zd zg
def zy(g:FuncId)(c2:List SV)(hg:bV c2=true)(d:bC->Bool)(hp:∀x,PC prog g [.ag (ar x),.ip c2] (·=ai (d x)))(l:List bC)(hlen:l.length<=100000):
 SC prog 44 [.buf 0 l.length 14 none,.fn g [] [.ptr 1 0]] [.cells (l.flatMap ar),.cells c2] [] (λr S'=>r=.buf 0 (dV d l).length 14 none/\S'=[.cells ((dV d l++bc (l.length-(dV d l).length) bC.zero).flatMap ar),.cells c2]):=by
 have hidx:=z7 (l:=l) d (fid:=g) (first:=[]) (cap:=[.ip c2]) i4 (λx hx=>hp x) ⟨rfl,rfl⟩;have hkc:∀(o:Nat) (l:List bC),(l.flatMap ar).map (aO o)=l.flatMap ar:=λo l=>bF bY o l;have hk2:∀o:Nat,c2.map (aO o)=c2:=λo=>bU hg
 refine Rj 42 func44 ?_;refine(jn)<|(zK hidx (hwk:=.cons (.buf rfl (by rw[eD cK];exact cC.refl (aD bY l)) (by rw[bg cK];exact aa _)) (.cons (.fn .nil (.cons (.ptr rfl (cC.refl hg) (bk _)) .nil)) .nil)))<|(zR) ?_
 by_cases hno:fP d l = -1
 ·have hall:=Bq hno;rw[hno]
  refine(wO)<|(zV)<|(zE) ?_;exact zP [.tmp 4] (hq:=by (try simp only[ez,bK]);first | done | (rw[Fe hall,d0,List.replicate_zero,append_nil];first | exact⟨rfl,rfl⟩ | exact⟨trivial,rfl⟩ | exact⟨rfl,trivial⟩ | exact⟨trivial,trivial⟩))
 obtain⟨k,x0,hk,hx0,hd0,hbef⟩:=Bp hno;rw[hk];have hkl:k<l.length:=br hx0
 refine(aA (show decide ((k:Int) = -1)=false by simp only[wn];omega))<|(zN)<|(zs) ?_;refine aF.r0 ii (mr (bA (k:Int) 1 i4)) ?_
 have hst:dV d (l.take (k+1))=l.take k:=by
  rw[Bw hx0,ut hd0,append_nil];refine Fe λx hx=>?_;obtain⟨i,hi⟩:=List.mem_iff_getElem?.1 hx
  have hik:i<k:=by
   have:=br hi;rw[ad] at this;omega
  rw[dd,ut hik] at hi;exact hbef i x hik hi
 (repeat refine aF.seq ?_)
 refine aF.block (aF.loop (λm st=>∃(j i:Nat) (q:List bC),(i<j/\j<=l.length/\q.length=l.length)/\(q.take i=dV d (l.take j)/\q.drop j=l.drop j)/\l.length-j=m/\st=⟨[(0,.buf 0 l.length 14 none),(1,.fn g [] [.ptr 1 0]),(5,qx i),(6,qx j),(1000000,.ptr 0 0),(1000001,.ptr 1 0)],42,[.cells (q.flatMap ar),.cells c2],[]⟩) (l.length-(k+1)) (cm @fF) ⟨k+1,k,l,⟨b8 _,hkl,rfl⟩,⟨hst.symm,rfl⟩,rfl,rfl⟩ (by rintro m st ⟨j,i,q,_,_,_,rfl⟩;rfl) ?_);rintro m st ⟨j,i,q,⟨hij,hjl,hql⟩,⟨htk,hdr⟩,rfl,rfl⟩
 have hcl:(q.flatMap ar).length=l.length*14:=by rw[bg cK,hql]
 refine(zV) ?_;by_cases hlt:j<l.length;rotate_left
 ·rw[show decide ((j:Int)<(l.length:Int))=false by simp only[wn];omega]
  obtain rfl:j=l.length:=by omega
  rw[a8] at htk;refine(gh) ?_
  have hkl2:(dV d l).length=i:=by rw[<-htk,ad];omega
  have hrest:(q.flatMap ar).take (i*14)++((rep bC.vw (l.length-i)).map SV.a++(q.flatMap ar).drop (i*14+(l.length-i)*14))=(dV d l++bc (l.length-(dV d l).length) bC.zero).flatMap ar:=by
   rw[hkl2,su,jf cK,htk,aS (by rw[hcl];omega),append_nil,ba]
  refine(zs) ?_;refine aF.r0 ii (by simp only[cN,bL,ak,aB,m7,m6,↓reduceIte,a6,Nat.reduceAdd,Nat.reduceMul,Nat.reduceLeDiff,Nat.reduceLT,an,au,bn,KB (show i<=l.length by omega),show ¬(l.length-i=0) by omega,show i*14+(l.length-i)*14<=l.length*14 by omega,hcl,show(rep [AV.int IntKind.i64 0,.int .i64 0,.str [],.str [],.str [],.str [],.str [],.str [],.int .i64 0,.int .i64 0,.int .i64 0,.int .i64 0,.int .i64 0,.int .i64 0] (l.length-i))=rep bC.vw (l.length-i) from rfl,wh,hrest];first | done | rfl) ?_;refine(zs) ?_;refine aF.r0 ii (mr (bx (TS (show i<=l.length by omega)) @b9)) ?_;refine(zE) ?_;exact Kw.of (rs:=[.tmp 4]) rfl rfl zl (by (try simp only[ez,bK]);first | done | (rw[hkl2];first | exact⟨rfl,rfl⟩ | exact⟨trivial,rfl⟩ | exact⟨rfl,trivial⟩ | exact⟨trivial,trivial⟩)) zd zg
 rw[show decide ((j:Int)<(l.length:Int))=true by simp only[wp];omega];obtain⟨x,hx⟩:∃x,l[j]?=some x:=⟨l[j],jp hlt⟩
 have hqx:q[j]?=some x:=by
  have:(q.drop j)[0]?=(l.drop j)[0]?:=by rw[hdr]
  rw[ci,ci,cv] at this;rw[this,hx]
 have hdr2:q.drop (j+1)=l.drop (j+1):=by
  have:=rc (List.drop 1) hdr;rw[d8,d8] at this;exact this
 have hsn:=Bw (d:=d) hx;have ax:((q.flatMap ar).drop (j*14)).take 14=ar x:=aT (e:=14) (enc:=ar) gc hqx;rw[dz] at ax;have hpx:=hp x;rw[dz] at hpx
 refine(gz)<|(aA (xO hlt hcl (show j*14+14<=l.length*14 by omega) ax hkc hk2))<|(zC)<|(zK hpx (hwk:=.cons (.ag zr) (.cons (.ptr rfl (cC.refl hg) (bk _)) .nil))) ?_
 cases hd:d x
 ·have hil:i<q.length:=by omega
  have s1:=q9 (enc:=ar) cK (l:=q) (i:=i) x hil;rw[dz] at s1;simp only[cons_append,nil_append] at s1;rw[hd,v6 g9] at hsn
  refine(zR)<|(zY)<|(aA (gr (show i<l.length by omega) hcl (show i*14+14<=l.length*14 by omega) s1))<|(zs) ?_;refine aF.r0 ii (mr (bA (i:Int) 1 i4)) ?_;refine(zs) ?_;refine aF.r0 ii (mr (bA (j:Int) 1 i4)) ?_;refine⟨l.length-(j+1),_,by omega,(cm @fF),j+1,i+1,q.set i x,⟨by omega,by omega,by rw[a7,hql]⟩,⟨?_,?_⟩,rfl,rfl⟩
  ·rw[hsn,<-htk,bb,ut hil,d3,ad,ap i4,cn,Nat.min_eq_right i4,show i+1-i=1 by omega];rfl
  ·rw[List.drop_set,ut i4];exact hdr2
 ·rw[hd,ut rfl,append_nil] at hsn
  refine(zR)<|(zN)<|(zs) ?_;refine aF.r0 ii (mr (bA (j:Int) 1 i4)) ?_;exact⟨l.length-(j+1),_,by omega,(cm @fF),j+1,i,q,⟨by omega,by omega,hql⟩,⟨by rw[hsn,htk],hdr2⟩,rfl,rfl⟩
def IF{j:Nat}(h:i+j<=1000000):mC prog 3 210 (.int .i64 ((i:Int)+(j:Int)))=some (.int .u64 ((i+j:Nat):Int)):=by
 unfold mC;rw[show prog.underlying 3=some (.int .i64) by kernel_rfl,show prog.underlying 210=some (.int .u64) by kernel_rfl]
 have:dX .u64 ((i:Int)+(j:Int))=((i+j:Nat):Int):=by rw[gW];simp[IntKind.wrap,IntKind.bits,IntKind.signed];omega
 simp only[this]
def IG{s:Nat}:dk prog .shr 210 (.int .u64 (s:Int)) (.int .u64 1)=some (.int .u64 ((s/2:Nat):Int)):=by
 have:((s:Int)).fdiv 2=((s/2:Nat):Int):=by
  rw[Int.fdiv_eq_ediv_of_nonneg _ g9];omega
 show some (AV.int .u64 (((s:Int)).fdiv 2))=_;rw[this]
def IH{s:Nat}(h:s<=1000000):mC prog 210 3 (.int .u64 (s:Int))=some (.int .i64 (s:Int)):=by
 unfold mC;rw[show prog.underlying 3=some (.int .i64) by kernel_rfl,show prog.underlying 210=some (.int .u64) by kernel_rfl]
 have:dX .i64 (s:Int)=(s:Int):=by rw[gW];simp[IntKind.wrap,IntKind.bits,IntKind.signed];omega
 simp only[this]
def dT(p:ao):ae p=[ah p.name,ah p.kind,ah p.bu,ah p.slot,ab p.made,ab p.since,ai p.cM,ak 2 p.props aI,ab p.l1,ab p.l2,ab p.l3,ab p.l4,ab p.l5,ab p.l6]:=rfl
def pg(p:bO):aI p=[ah p.key,ah p.value]:=rfl
def ou(l:List ao)(k:List Nat)(pos:Nat):Bool:=match l[pos]? with
 | some x=>decide (ao.name x=k)
 | none=>false
structure A5 (l:List ao) (k:List Nat) (pos:Nat):Prop where
 le:pos<=l.length
 jr:∀(a:Nat) (x:ao),l[a]?=some x->(gB (ao.name x) k=true↔a<pos)
variable{p:Prop}
def QU (h:p:=by
  obtain⟨hpos,hpt⟩:=hpart
  refine pB 49 vah ?_;refine(og)<|(zV) ?_
  (repeat refine aF.seq ?_)
  refine aF.block (aF.loop (λm st=>∃i j:Nat,(i<=pos/\pos<=j/\j<=l.length)/\j-i=m/\st=⟨[(0,ak vai l vaj),(1,ah k),(2,.fn g [] cap),(8,qx l.length),(9,qx i),(10,qx j)],49,[],[]⟩) l.length zH ⟨0,l.length,⟨Nat.zero_le _,hpos,Nat.le_refl _⟩,Nat.sub_zero _,rfl⟩ (by rintro m st ⟨i,j,_,_,rfl⟩;rfl) ?_);rintro m st ⟨i,j,⟨hip,hpj,hjl⟩,rfl,rfl⟩;refine(zV) ?_;by_cases hij:i<j;rotate_left
  ·rw[show decide ((i:Int)<(j:Int))=false by simp only[wn];((try simp only[vai] at *)<;>omega)];refine(gh) ?_
   obtain rfl:i=pos:=by ((try simp only[vai] at *)<;>omega)
   by_cases hil:i<l.length
   ·obtain⟨x,hx⟩:∃x,l[i]?=some x:=⟨l[i],jp hil⟩
    have hl:gB (vak x) k=false:=by
     cases h:gB (vak x) k with
     | false=>rfl
     | true=>exact un ((hpt i x hx).1 h) (Nat.lt_irrefl _)
    have ax:((l.flatMap vaj).drop (i*vai)).take vai=vaj x:=aT (e:=vai) (enc:=vaj) gc hx;simp only[vai] at ax;have hpx:=hp x (List.mem_of_getElem? hx)
    have hfd:vam l k i=decide (vak x=k):=by unfold vam;rw[hx]
    have hc0:decide (wu (vak x) k=0)=decide (vak x=k):=by
     unfold wu;rw[hl,v6 g9];by_cases e:vak x=k
     ·rw[ut e,wl e];rfl
     ·rw[v6 e,wd e];rfl
    rw[van] at ax hpx
    exact(e9 (cO (show decide ((i:Int)<(l.length:Int))=true by simp only[wp];((try simp only[vai] at *)<;>omega)) hil ax))<|(zK hpx (hwk:=cC.refl (kP rfl hcap)))<|(cP hc0)<|jW [.tmp 6,.tmp 7] (hq:=by rw[hfd])
   ·have hfd:vam l k i=false:=by unfold vam;rw[List.getElem?_eq_none (by ((try simp only[vai] at *)<;>omega))]
    exact(aA (show decide ((i:Int)<(l.length:Int))=false by simp only[wn];((try simp only[vai] at *)<;>omega)))<|jW [.tmp 6,.tmp 7] (hq:=by rw[hfd])
  rw[show decide ((i:Int)<(j:Int))=true by simp only[wp];((try simp only[vai] at *)<;>omega)];obtain⟨h,hh⟩:∃h,h=(i+j)/2:=⟨_,rfl⟩
  have hl2:h<l.length:=by ((try simp only[vai] at *)<;>omega)
  obtain⟨x,hx⟩:∃x,l[h]?=some x:=⟨l[h],jp hl2⟩;have ax:((l.flatMap vaj).drop (h*vai)).take vai=vaj x:=aT (e:=vai) (enc:=vaj) gc hx;simp only[vai] at ax;have hpx:=hp x (List.mem_of_getElem? hx);have hpth:=hpt h x hx;rw[van] at ax hpx
  refine(gz)<|(zs) ?_;refine aF.r0 ii (mr (gr (bA (i:Int) (j:Int) (by ((try simp only[vai] at *)<;>omega))) (IF (show i+j<=1000000 by ((try simp only[vai] at *)<;>omega))) @IG (IH (show(i+j)/2<=1000000 by ((try simp only[vai] at *)<;>omega))))) ?_
  rw[<-hh]
  refine(e9 (bx hl2 ax))<|(zK hpx (hwk:=cC.refl (kP rfl hcap))) ?_
  have hc:decide (wu (vak x) k<0)=gB (vak x) k:=by
   unfold wu;cases h:gB (vak x) k
   ·rw[v6 g9];split<;>rfl
   ·rw[ut rfl];rfl
  cases hlt:gB (vak x) k
  ·have hge:pos<=h:=by
    rcases Nat.lt_or_ge h pos with hq | hq
    ·have:=hpth.2 hq;rw[hlt] at this;cases this
    ·exact hq
   refine(cP (bx hc hlt))<|(lf) ?_;exact⟨h-i,_,by ((try simp only[vai] at *)<;>omega),zH,i,h,⟨hip,hge,by ((try simp only[vai] at *)<;>omega)⟩,rfl,rfl⟩
  ·have hgt:h<pos:=hpth.1 hlt
   refine(cP (bx hc hlt))<|(zY)<|(zs) ?_;refine aF.r0 ii (mr (bA (h:Int) 1 (by ((try simp only[vai] at *)<;>omega)))) ?_;exact⟨j-(h+1),_,by ((try simp only[vai] at *)<;>omega),(Fg.less (Ug @fF) (Uh @fF)),h+1,j,⟨by ((try simp only[vai] at *)<;>omega),hpj,hjl⟩,rfl,rfl⟩):p:=h
open Go.Proofs.Tryz renaming func193 -> vah in
open Go.Ev renaming vc -> vai in
open Go.Proofs renaming ae -> vaj,ou -> vam in
open Go.Proofs.ao renaming name -> vak in
def Gi(l:List ao)(hlen:l.length<=100000){g:FuncId}{cap:List SV}(hcap:bV cap=true)(k:List Nat)(pos:Nat)(hp:∀x∈l,PC prog g ([.ag (ae x),ah k]++cap) (·=ab (wu (ao.name x) k)))(hpart:A5 l k pos):
 PC prog 193 [ak 14 l ae,ah k,.fn g [] cap] (·=.cA [qx pos,ai (ou l k pos)]):=by
 have van:=@dT;exact QU
def ra(l:List bO)(k:List Nat)(pos:Nat):Bool:=match l[pos]? with
 | some x=>decide (bO.key x=k)
 | none=>false
structure A6 (l:List bO) (k:List Nat) (pos:Nat):Prop where
 le:pos<=l.length
 jr:∀(a:Nat) (x:bO),l[a]?=some x->(gB (bO.key x) k=true↔a<pos)
open Go.Proofs.Tryz renaming func197 -> vah in
open Go.Ev renaming JS -> vai in
open Go.Proofs renaming aI -> vaj,ra -> vam in
open Go.Proofs.bO renaming key -> vak in
def Gj(l:List bO)(hlen:l.length<=100000){g:FuncId}{cap:List SV}(hcap:bV cap=true)(k:List Nat)(pos:Nat)(hp:∀x∈l,PC prog g ([.ag (aI x),ah k]++cap) (·=ab (wu (bO.key x) k)))(hpart:A6 l k pos):
 PC prog 197 [ak 2 l aI,ah k,.fn g [] cap] (·=.cA [qx pos,ai (ra l k pos)]):=by
 have van:=@pg;exact QU
open Go.Ev Go.Lib
def J3(Z:List AV):∀m,(rep Z m).length=m*Z.length
 | 0=>by rw[rep,i5,bh]
 | m+1=>by rw[rep,li,J3 Z m,ch,ct]
def F4{Z:List AV}(hZ:Z.all jR=true):∀m,(rep Z m).all jR=true
 | 0=>rfl
 | m+1=>by rw[rep,cg,hZ,F4 hZ m];rfl
def FA:∀{l:List AV},l.all jR=true->(l.map SV.a).all eM=true
 | [],_=>rfl
 | a::l,h=>by
  rw[dl,ac] at h;rw[bv,dl,FA h.2,Bool.and_true];exact h.1
def Fz(o:Nat):∀l:List AV,(l.map SV.a).map (aO o)=l.map SV.a
 | []=>rfl
 | a::l=>by rw[bv,bv,Fz o l];rfl
def DU:Ca prog 263:=by
 intro w a b la ca lb cb tA tB kA kB h1 h2 h3 h4 h5 h6
 rw[run_callFunc_extern Tryz.func263 zW zW zW (e:=Extern.SlicesOverlaps.overlaps #[44,44] #[4]) zW,
  Lib.run_overlaps_apart w 44 4 56 zW 14 (λw=>bW zW) a b la ca lb cb h1 tA tB kA kB h2 h3 h4 h5 h6]
 rfl
def AQ(x:ao):SC prog 195 [.e0 14,qx 0,.buf 0 1 14 (some 1)] [.cells (ae x)] [0] (λr S'=>r=ak 14 [x] ae/\S'=[.gone]):=by
 refine Ot 95 Tryz.func195 ?_;have hkc:=λo:Nat=>bU (o:=o) (dA x);have hon:(ae x).all eM=true:=rfl;rw[dT] at hkc hon ⊢
 refine(og)<|(og)<|(lf)<|(wO)<|(aA (bx hkc hon))<|zA [(6,.buf 1 1 14 none)] [.gone,.cells (ae x)] (cm @dT) ?_;refine zZ [(6,ak 14 [x] ae)] 1 rfl ⟨.inr (.buf rfl (by rw[flatMap_cons,flatMap_nil,append_nil];exact cC.refl (dA x)) (by show 1*14<=14;decide)),trivial⟩<|zA [(6,ak 14 [x] ae)] [.gone] zH<|(zE) ?_;exact zP [.tmp 6]
def QV (h:p:=by
  have hf:∀l:List vao,(l.flatMap vap).length=l.length*vaq:=bg (enc:=vap) (e:=vaq) gc;simp only[vaq] at hf
  have h1:((l.flatMap vap++A).take ((i+1)*vaq)).length=(i+1)*vaq:=by
   rw[List.length_take,li,hf];((try simp only[vaq] at *)<;>omega)
  simp only[vaq] at h1
  have h2:((l.flatMap vap++A).take ((i+1)*vaq)).take (i*vaq)=(l.take i).flatMap vap:=by
   rw[List.take_take,Nat.min_eq_left (by ((try simp only[vaq] at *)<;>omega)),List.take_append_of_le_length (by rw[hf];((try simp only[vaq] at *)<;>omega)),jf (enc:=vap) (e:=vaq) gc]
  simp only[vaq] at h2;generalize hB:(l.flatMap vap++A).take ((i+1)*vaq)=B at h1 h2 ⊢;generalize (l.flatMap vap++A).drop ((i+1)*vaq+(l.length-i)*vaq)=R
  have e1:(B++((l.drop i).flatMap vap++R)).take (i*vaq)=(l.take i).flatMap vap:=by rw[List.take_append_of_le_length (by rw[h1];((try simp only[vaq] at *)<;>omega)),h2]
  simp only[vaq] at e1
  have e2:(B++((l.drop i).flatMap vap++R)).drop (i*vaq+vaq)=(l.drop i).flatMap vap++R:=by rw[List.drop_append_of_le_length (by rw[h1];((try simp only[vaq] at *)<;>omega)),List.drop_of_length_le (by rw[h1];((try simp only[vaq] at *)<;>omega)),List.nil_append]
  simp only[vaq] at e2;rw[e1,e2]
  have h3:((l.take i).flatMap vap++(vap x++(l.drop i).flatMap vap)).length=(l.length+1)*vaq:=by
   rw[li,li,hf,hf,show(vap x).length=vaq from rfl,List.length_take,List.length_drop,Nat.min_eq_left (by ((try simp only[vaq] at *)<;>omega))];((try simp only[vaq] at *)<;>omega)
  simp only[vaq] at h3
  rw[<-List.append_assoc (vap x),<-List.append_assoc,List.take_append_of_le_length (by rw[h3];exact Nat.le_refl _),List.take_of_length_le (by rw[h3];exact Nat.le_refl _),List.flatMap_append,List.flatMap_cons]):p:=h
open Go.Proofs renaming ao -> vao,ae -> vap in
open Go.Ev renaming vc -> vaq in
def Pr(l:List ao)(i:Nat)(x:ao)(hi:i<l.length)(A:List SV):
 (((l.flatMap ae++A).take ((i+1)*14)++((l.drop i).flatMap ae++(l.flatMap ae++A).drop ((i+1)*14+(l.length-i)*14))).take (i*14)++(ae x++((l.flatMap ae++A).take ((i+1)*14)++((l.drop i).flatMap ae++(l.flatMap ae++A).drop ((i+1)*14+(l.length-i)*14))).drop (i*14+14))).take ((l.length+1)*14)=(l.take i++x::l.drop i).flatMap ae:=by
 exact QV
abbrev UT:List AV:=[.str [],.str [],.str [],.str [],.int .i64 0,.int .i64 0,.bool false,.slice none 0 0 (some 0),.int .i64 0,.int .i64 0,.int .i64 0,.int .i64 0,.int .i64 0,.int .i64 0]
abbrev UU:List AV:=[.str [],.str []]
def QW (h:p:=by
  refine Rj 95 var ?_;have hkl:=λo:Nat=>bF (enc:=vas) vat o l;have hkc:=λo:Nat=>bU (o:=o) (vat x);have hon:(vas x).all eM=true:=rfl;have hxl:(vas x).length=vau:=rfl;simp only[vau] at hxl;have hxt:(vas x).take vau=vas x:=rfl;simp only[vau] at hxt;have hcl:(l.flatMap vas).length=l.length*vau:=bg (enc:=vas) (e:=vau) gc l;simp only[vau] at hcl;have htl:(l.flatMap vas).take (l.length*vau)=l.flatMap vas:=List.take_of_length_le (by rw[hcl];exact Nat.le_refl _);simp only[vau] at htl;have hc1:((1:Nat):Int)=1:=rfl
  refine(zV)<|(aA (Pg hi))<|(aA hc1)<|(aA hc1)<|(lf) ?_
  by_cases hin:i=l.length
  ·subst hin
   refine(aA (show decide ((l.length:Int)=(l.length:Int))=true by simp))<|(zY) ?_
   have hka:∀o:Nat,(l.flatMap vas++vas x).map (aO o)=l.flatMap vas++vas x:=λo=>by rw[List.map_append,hkl,hkc]
   refine(aA (OV hkc hon hxl hxt hcl htl hka @Nat.le_refl (show l.length<=1000000 by ((try simp only[vau] at *)<;>omega))))<|zA [(6,.buf 0 (l.length+1) vau none)] [.cells (l.flatMap vas++vas x),.gone] zH ?_
   have hq:l.flatMap vas++vas x=(l.take l.length++x::l.drop l.length).flatMap vas:=by rw[List.take_length,List.drop_length,List.flatMap_append,List.flatMap_cons,List.flatMap_nil,List.append_nil]
   have hqn:(l.take l.length++x::l.drop l.length).length=l.length+1:=by rw[List.take_length,List.drop_length,li,i7,i5]
   rw[hq]
   refine zZ [(6,ak vau (l.take l.length++x::l.drop l.length) vas)] 0 rfl ⟨.inr (by rw[qG,hqn];exact .buf rfl (by rw[<-hqn,eD (enc:=vas) (e:=vau) gc];exact cC.refl (aD vat _)) (by rw[bg (enc:=vas) (e:=vau) gc,hqn];exact Nat.le_refl _)),trivial⟩<|(zE) ?_;exact zP [.tmp 6]
  have hlt:i<l.length:=by ((try simp only[vau] at *)<;>omega)
  refine(aA (show decide ((i:Int)=(l.length:Int))=false by simp only[wn];((try simp only[vau] at *)<;>omega)))<|(zN) ?_;refine aF.Ih 0 g9 rfl rfl ?_
  intro cap hcap;obtain⟨A,hA⟩:∃A,A=List.replicate (cap*vau-(l.flatMap vas).length) SV.any:=⟨_,rfl⟩;rw[<-hA]
  have hAl:A.length=cap*vau-l.length*vau:=by rw[hA,List.length_replicate,hcl]
  simp only[vau] at hAl;by_cases hroom:cap<l.length+1
  ·obtain rfl:cap=l.length:=by ((try simp only[vau] at *)<;>omega)
   obtain rfl:A=[]:=t8 (by rw[hAl];((try simp only[vau] at *)<;>omega));rw[List.append_nil];clear hA hAl
   refine(aA (cO hc1 (Ee (show -9223372036854775808<=(l.length:Int)+1/\(l.length:Int)+1<=9223372036854775807 from⟨by ((try simp only[vau] at *)<;>omega),by ((try simp only[vau] at *)<;>omega)⟩)) (show decide ((l.length:Int)<(l.length:Int)+1)=true by simp only[wp];((try simp only[vau] at *)<;>omega))))<|(zY) ?_
   obtain⟨m,hm⟩:∃m,m=l.length+1-i:=⟨_,rfl⟩;obtain⟨R,hR⟩:∃R,R=(rep vav m).map SV.a:=⟨_,rfl⟩
   have hRl:R.length=m*vau:=by rw[hR,List.length_map,J3];rfl
   simp only[vau] at hRl
   have hRo:R.all eM=true:=by rw[hR];exact FA (F4 rfl m)
   have hRk:∀o:Nat,R.map (aO o)=R:=λo=>by rw[hR];exact Fz o _
   obtain⟨c1,hc1e⟩:∃c1,c1=(l.flatMap vas).take (i*vau)++R:=⟨_,rfl⟩
   have hc1l:c1.length=(l.length+1)*vau:=by rw[hc1e,li,List.length_take,hcl,hRl,Nat.min_eq_left (by ((try simp only[vau] at *)<;>omega)),hm];((try simp only[vau] at *)<;>omega)
   simp only[vau] at hc1l
   have hc1k:∀o:Nat,c1.map (aO o)=c1:=λo=>by rw[hc1e,List.map_append,hRk,List.map_take,hkl]
   refine(aA (bx (OV hc1 (TS hi) (Ee (show -9223372036854775808<=(l.length:Int)+1/\(l.length:Int)+1<=9223372036854775807 from⟨by ((try simp only[vau] at *)<;>omega),by ((try simp only[vau] at *)<;>omega)⟩)) (QQ (show -9223372036854775808<=(l.length:Int)+1-(i:Int)/\(l.length:Int)+1-(i:Int)<=9223372036854775807 from⟨by ((try simp only[vau] at *)<;>omega),by ((try simp only[vau] at *)<;>omega)⟩)) (show((l.length:Int)+1-(i:Int))=(m:Int) by ((try simp only[vau] at *)<;>omega)) (Eq.symm hR) hRo @Nat.sub_zero (show m<=1000000 by ((try simp only[vau] at *)<;>omega))) (MM (show ¬m=0 by ((try simp only[vau] at *)<;>omega)) (show i<=1000000 by ((try simp only[vau] at *)<;>omega)) hcl (show i*vau<=l.length*vau by ((try simp only[vau] at *)<;>omega)) (show l.length<l.length+1 by ((try simp only[vau] at *)<;>omega)) (show i+m=l.length+1 by ((try simp only[vau] at *)<;>omega)) (Eq.symm hc1e) hc1k hkl hkc))) ?_;obtain⟨c2,hc2e⟩:∃c2,c2=c1.take (i*vau)++(vas x++c1.drop (i*vau+vau)):=⟨_,rfl⟩
   have hc2l:c2.length=(l.length+1)*vau:=by rw[hc2e,li,li,List.length_take,List.length_drop,hc1l,hxl];((try simp only[vau] at *)<;>omega)
   simp only[vau] at hc2l;refine(aA (Tw (Pg (show i<=l.length+1 by ((try simp only[vau] at *)<;>omega))) hxl hxt (show Nat.min 1 (l.length+1-i)=1 by simp only[Nat.min_def];rw[ut (by ((try simp only[vau] at *)<;>omega))]) hc1l (show i*vau+vau<=(l.length+1)*vau by ((try simp only[vau] at *)<;>omega)) hon (Eq.symm hc2e))) ?_
   have hdr:((l.flatMap vas).drop (i*vau)).take ((l.length-i)*vau)=(l.drop i).flatMap vas:=by
    rw[pn (enc:=vas) (e:=vau) gc,List.take_of_length_le];rw[bg (enc:=vas) (e:=vau) gc,List.length_drop];exact Nat.le_refl _
   simp only[vau] at hdr
   have hdl:((l.drop i).flatMap vas).length=(l.length-i)*vau:=by rw[bg (enc:=vas) (e:=vau) gc,List.length_drop]
   simp only[vau] at hdl;have hdt:((l.drop i).flatMap vas).take ((l.length-i)*vau)=(l.drop i).flatMap vas:=List.take_of_length_le (by rw[hdl];exact Nat.le_refl _);simp only[vau] at hdt;have hdo:((l.drop i).flatMap vas).all eM=true:=vaw (l.drop i);obtain⟨c3,hc3e⟩:∃c3,c3=c2.take ((i+1)*vau)++((l.drop i).flatMap vas++c2.drop ((i+1)*vau+(l.length-i)*vau)):=⟨_,rfl⟩
   have hfin:c3=(l.take i++x::l.drop i).flatMap vas:=by
    have e0:c1.take (i*vau)=(l.take i).flatMap vas:=by
     rw[hc1e,List.take_append_of_le_length (by rw[List.length_take,hcl];((try simp only[vau] at *)<;>omega)),List.take_take,Nat.min_self,jf (enc:=vas) (e:=vau) gc]
    simp only[vau] at e0
    have e1:((l.take i).flatMap vas++vas x).length=(i+1)*vau:=by
     rw[li,bg (enc:=vas) (e:=vau) gc,hxl,List.length_take,Nat.min_eq_left hi];((try simp only[vau] at *)<;>omega)
    simp only[vau] at e1;rw[hc3e,show c2.drop ((i+1)*vau+(l.length-i)*vau)=[] from List.drop_of_length_le (by rw[hc2l];((try simp only[vau] at *)<;>omega)),List.append_nil,hc2e,e0,<-List.append_assoc,List.take_append_of_le_length (by rw[e1];exact Nat.le_refl _),List.take_of_length_le (by rw[e1];exact Nat.le_refl _),List.flatMap_append,List.flatMap_cons,List.append_assoc]
   refine(zs) ?_;refine oe [0,0,0,6,15,0,0,96,255] ?_
   (repeat (first | refine SD.r ii rfl ii ii (mr (gr (bA (i:Int) 1 (by ((try simp only[vau] at *)<;>omega))) (CZ) (Pg (show i+1<=l.length+1 by ((try simp only[vau] at *)<;>omega))) (Pg hi))) ?_ | refine SD.s ii rfl ii ii ?_ | fail))
   refine SD.ed ii rfl ii rfl rfl ii (mr (bx (OV hcl hc2l (show i*vau+(l.length-i)*vau<=l.length*vau by ((try simp only[vau] at *)<;>omega)) (show Nat.min (l.length-i) (l.length+1-(i+1))=l.length-i by simp only[Nat.min_def];split<;>((try simp only[vau] at *)<;>omega)) (show ¬(l.length-i=0) by ((try simp only[vau] at *)<;>omega)) (show(i+1)*vau+(l.length-i)*vau<=(l.length+1)*vau by ((try simp only[vau] at *)<;>omega)) hdr hdl hdt) (cO hdo @Nat.le_refl (Eq.symm hc3e)))) ?_;refine(zM)<|(zV) ?_
   have hqn:(l.take i++x::l.drop i).length=l.length+1:=by rw[li,i7,List.length_take,List.length_drop,Nat.min_eq_left hi];((try simp only[vau] at *)<;>omega)
   rw[hfin]
   refine zA [(6,.buf 2 (l.length+1) vau none)] [.gone,.gone,.cells ((l.take i++x::l.drop i).flatMap vas)] zH<|zZ [(6,ak vau (l.take i++x::l.drop i) vas)] 2 rfl ⟨.inr (by rw[qG,hqn];exact .buf rfl (by rw[<-hqn,eD (enc:=vas) (e:=vau) gc];exact cC.refl (aD vat _)) (by rw[bg (enc:=vas) (e:=vau) gc,hqn];exact Nat.le_refl _)),trivial⟩<|zA [(6,ak vau (l.take i++x::l.drop i) vas)] [.gone,.gone] zH<|(zE) ?_;exact zP [.tmp 6]
  have hcap2:l.length+1<=cap:=by ((try simp only[vau] at *)<;>omega)
  have hXl:(l.flatMap vas++A).length=cap*vau:=by rw[li,hcl,hAl];((try simp only[vau] at *)<;>omega)
  simp only[vau] at hXl;have hnn:(-9223372036854775808:Int)<=(l.length:Int)+1/\(l.length:Int)+1<=9223372036854775807:=⟨by ((try simp only[vau] at *)<;>omega),by ((try simp only[vau] at *)<;>omega)⟩
  refine(aA (cO hc1 (Ee hnn) (show decide ((cap:Int)<(l.length:Int)+1)=false by simp only[wn];((try simp only[vau] at *)<;>omega))))<|(zN) ?_
  have hbt:cQ l.length (some cap) none (some (.int .i64 ((l.length+1:Nat):Int))) none=some (0,l.length+1,some cap):=by
   unfold cQ oy pU;simp only[oI,m7,fc hcap2,Bool.or_true,an]
  refine(zs) ?_;refine aF.r0 ii (mr (gr hc1 (Ee hnn) (CZ) hbt)) ?_;have hii:(-9223372036854775808:Int)<=(i:Int)+1/\(i:Int)+1<=9223372036854775807:=⟨by ((try simp only[vau] at *)<;>omega),by ((try simp only[vau] at *)<;>omega)⟩
  refine(zs) ?_;refine aF.Q9 ii (mr (na hc1 (Ee hii) (CZ) (Pg (show i+1<=l.length+1 by ((try simp only[vau] at *)<;>omega))) @Nat.sub_zero)) ?_;refine aK.U9 vax ii rfl rfl ii rfl zc rfl rfl rfl rfl g9 g9 (by ((try simp only[vau] at *)<;>omega)) (by rw[hXl];((try simp only[vau] at *)<;>omega)) ?_;refine(zR)<|(zY) ?_
  have hdr:(((l.flatMap vas++A).drop (i*vau)).take ((l.length+1-i)*vau)).take ((l.length-i)*vau)=(l.drop i).flatMap vas:=by
   rw[List.take_take,Nat.min_eq_left (by ((try simp only[vau] at *)<;>omega)),List.drop_append_of_le_length (by rw[hcl];((try simp only[vau] at *)<;>omega)),pn (enc:=vas) (e:=vau) gc,List.take_append_of_le_length (by rw[bg (enc:=vas) (e:=vau) gc,List.length_drop];exact Nat.le_refl _),List.take_of_length_le];rw[bg (enc:=vas) (e:=vau) gc,List.length_drop];exact Nat.le_refl _
  simp only[vau] at hdr
  have hdl:(((l.flatMap vas++A).drop (i*vau)).take ((l.length+1-i)*vau)).length=(l.length+1-i)*vau:=by
   rw[List.length_take,List.length_drop,hXl,Nat.min_eq_left (by ((try simp only[vau] at *)<;>omega))]
  simp only[vau] at hdl;have hdo:((l.drop i).flatMap vas).all eM=true:=vaw (l.drop i);obtain⟨w1,hw1⟩:∃w1,w1=(l.flatMap vas++A).take ((i+1)*vau)++((l.drop i).flatMap vas++(l.flatMap vas++A).drop ((i+1)*vau+(l.length-i)*vau)):=⟨_,rfl⟩
  have hw1l:w1.length=cap*vau:=by rw[hw1,li,li,List.length_take,List.length_drop,hXl,bg (enc:=vas) (e:=vau) gc,List.length_drop,Nat.min_eq_left (by ((try simp only[vau] at *)<;>omega))];((try simp only[vau] at *)<;>omega)
  simp only[vau] at hw1l;obtain⟨w2,hw2⟩:∃w2,w2=w1.take (i*vau)++(vas x++w1.drop (i*vau+vau)):=⟨_,rfl⟩
  have hw2l:w2.length=cap*vau:=by rw[hw2,li,li,List.length_take,List.length_drop,hw1l,hxl,Nat.min_eq_left (by ((try simp only[vau] at *)<;>omega))];((try simp only[vau] at *)<;>omega)
  simp only[vau] at hw2l
  have hfin:w2.take ((l.length+1)*vau)=(l.take i++x::l.drop i).flatMap vas:=by rw[hw2,hw1];exact vay l i x hlt A
  simp only[vau] at hfin;refine(zs) ?_;refine oe [0,0,0,6,15,0,0,96,255] ?_
  (repeat (first | refine SD.r ii rfl ii ii (mr (na (Ee hii) (CZ) (Pg (show i+1<=l.length+1 by ((try simp only[vau] at *)<;>omega))) (Pg (show i<=l.length+1 by ((try simp only[vau] at *)<;>omega))) @Nat.sub_zero)) ?_ | refine SD.s ii rfl ii ii ?_ | fail))
  refine SD.ed ii rfl ii rfl rfl ii (mr (bx (OV hXl hcl (show i*vau+(l.length+1-i)*vau<=cap*vau by ((try simp only[vau] at *)<;>omega)) (show Nat.min (l.length+1-i) (l.length+1-(i+1))=l.length-i by simp only[Nat.min_def];split<;>((try simp only[vau] at *)<;>omega)) (show ¬(l.length-i=0) by ((try simp only[vau] at *)<;>omega)) (show(i+1)*vau+(l.length-i)*vau<=cap*vau by ((try simp only[vau] at *)<;>omega)) hdr hdl (show(l.length-i)*vau<=(l.length+1-i)*vau by ((try simp only[vau] at *)<;>omega))) (cO hdo @Nat.le_refl (Eq.symm hw1)))) ?_;refine(zM)<|(aA (Tw (Pg (show i<=l.length+1 by ((try simp only[vau] at *)<;>omega))) hxl hxt (show Nat.min 1 (l.length+1-i)=1 by simp only[Nat.min_def];rw[ut (by ((try simp only[vau] at *)<;>omega))]) hw1l (show i*vau+vau<=cap*vau by ((try simp only[vau] at *)<;>omega)) hon (Eq.symm hw2)))<|(zV) ?_
  have hqn:(l.take i++x::l.drop i).length=l.length+1:=by rw[li,i7,List.length_take,List.length_drop,Nat.min_eq_left hi];((try simp only[vau] at *)<;>omega)
  refine zA [(6,.buf 0 (l.length+1) vau (some cap))] [.cells w2,.gone] zH<|zZ [(6,ak vau (l.take i++x::l.drop i) vas)] 0 rfl ⟨.inr (by rw[qG,hqn];exact .buf rfl (by rw[hfin];exact cC.refl (aD vat _)) (by rw[hw2l];((try simp only[vau] at *)<;>omega))),trivial⟩<|(zE) ?_;exact zP [.tmp 6]):p:=h
open Go.Proofs.Tryz renaming func195 -> var in
open Go.Proofs renaming ae -> vas,UT -> vav in
open Go.Ev renaming vc -> vau in
def DD(l:List ao)(i:Nat)(x:ao)(hi:i<=l.length)(hne:0<l.length)(hlen:l.length<=100000):SC prog 195 [.buf 0 l.length 14 none,qx i,.buf 1 1 14 (some 1)] [.cells (l.flatMap ae),.cells (ae x)] [0,1] (λr S'=>r=ak 14 (l.take i++x::l.drop i) ae/\S'=[.gone,.gone]):=by
 have vat:=@dA;have vaw:=@BK;have vax:=@DU;have vay:=@Pr;exact QW
def DW:Ca prog 265:=by
 intro w a b la ca lb cb tA tB kA kB h1 h2 h3 h4 h5 h6
 rw[run_callFunc_extern Tryz.func265 zW zW zW (e:=Extern.SlicesOverlaps.overlaps #[50,50] #[4]) zW,
  Lib.run_overlaps_apart w 50 4 198 zW 2 (λw=>bW zW) a b la ca lb cb h1 tA tB kA kB h2 h3 h4 h5 h6]
 rfl
def AR(x:bO):SC prog 200 [.e0 2,qx 0,.buf 0 1 2 (some 1)] [.cells (aI x)] [0] (λr S'=>r=ak 2 [x] aI/\S'=[.gone]):=by
 refine Ot 95 Tryz.func200 ?_;have hkc:=λo:Nat=>bU (o:=o) (gJ x);have hon:(aI x).all eM=true:=rfl;rw[pg] at hkc hon ⊢
 refine(og)<|(og)<|(lf)<|(wO)<|(aA (bx hkc hon))<|zA [(6,.buf 1 1 2 none)] [.gone,.cells (aI x)] (cm @pg) ?_;refine zZ [(6,ak 2 [x] aI)] 1 rfl ⟨.inr (.buf rfl (by rw[flatMap_cons,flatMap_nil,append_nil];exact cC.refl (gJ x)) (by show 1*2<=2;decide)),trivial⟩<|zA [(6,ak 2 [x] aI)] [.gone] zH<|(zE) ?_;exact zP [.tmp 6]
open Go.Proofs renaming bO -> vao,aI -> vap in
open Go.Ev renaming JS -> vaq in
def Ps(l:List bO)(i:Nat)(x:bO)(hi:i<l.length)(A:List SV):
 (((l.flatMap aI++A).take ((i+1)*2)++((l.drop i).flatMap aI++(l.flatMap aI++A).drop ((i+1)*2+(l.length-i)*2))).take (i*2)++(aI x++((l.flatMap aI++A).take ((i+1)*2)++((l.drop i).flatMap aI++(l.flatMap aI++A).drop ((i+1)*2+(l.length-i)*2))).drop (i*2+2))).take ((l.length+1)*2)=(l.take i++x::l.drop i).flatMap aI:=by
 exact QV
open Go.Proofs.Tryz renaming func200 -> var in
open Go.Proofs renaming aI -> vas,UU -> vav in
open Go.Ev renaming JS -> vau in
def DE(l:List bO)(i:Nat)(x:bO)(hi:i<=l.length)(hne:0<l.length)(hlen:l.length<=100000):SC prog 200 [.buf 0 l.length 2 none,qx i,.buf 1 1 2 (some 1)] [.cells (l.flatMap aI),.cells (aI x)] [0,1] (λr S'=>r=ak 2 (l.take i++x::l.drop i) aI/\S'=[.gone,.gone]):=by
 have vat:=@gJ;have vaw:=@BL;have vax:=@DW;have vay:=@Ps;exact QW
def JW{a:List Nat}:∀{l:List (List Nat)},ko (a::l)=true->∀x∈l,gB a x=true
 | [],_,x,h=>by simp at h
 | b::r,ho,x,h=>by
  rw[ko,ac] at ho
  rcases t7 h with rfl | h
  ·exact ho.1
  ·exact ig ho.1 (JW ho.2 x h)
def Lt{a:List Nat}{l:List (List Nat)}(h:ko (a::l)=true):ko l=true:=by
 cases l with
 | nil=>rfl
 | cons b r=>rw[ko,ac] at h;exact h.2
def qN{α:Type}(key:α->List Nat):∀{l:List α},ko (l.map key)=true->∀k:List Nat,(l.takeWhile λx=>gB (key x) k).length<=l.length/\∀(a:Nat) (x:α),l[a]?=some x->(gB (key x) k=true↔a<(l.takeWhile λx=>gB (key x) k).length)
 | [],_,k=>⟨aa _,λa x h=>by simp at h⟩
 | y::l,ho,k=>by
  have ih:=qN key (Lt ho) k;have hlt:=JW (a:=key y) (l:=l.map key) ho
  cases h:gB (key y) k with
  | true=>
   rw[c5,ut h,i7,i7];refine⟨Nat.succ_le_succ ih.1,λa x hx=>?_⟩
   cases a with
   | zero=>simp only[cl,qr] at hx;subst hx;exact⟨λ_=>el _,λ_=>h⟩
   | succ a=>simp only[be] at hx;rw[ih.2 a x hx];exact⟨Nat.succ_lt_succ,Nat.lt_of_succ_lt_succ⟩
  | false=>
   rw[c5,v6 (by rw[h];decide),i5];refine⟨bk _,λa x hx=>⟨λhh=>?_,λhh=>un hh (cd _)⟩⟩;exfalso
   cases a with
   | zero=>simp only[cl,qr] at hx;subst hx;rw[h] at hh;cases hh
   | succ a=>
    simp only[be] at hx;have:=ig (hlt _ (c4 (aL hx))) hh;rw[h] at this;cases this
def ry(l:List ao)(k:List Nat):Nat:=(l.takeWhile λx=>gB (ao.name x) k).length
def df(l:List ao)(x:ao):List ao:=if ou l (ao.name x) (ry l (ao.name x))=true then l.set (ry l (ao.name x)) x else l.take (ry l (ao.name x))++x::l.drop (ry l (ao.name x))
def Ly{l:List ao}(ho:ko (l.map ao.name)=true)(k:List Nat):A5 l k (ry l k):=
 ⟨(qN ao.name ho k).1,(qN ao.name ho k).2⟩
def wI(y:ao)(k:List Nat){g:FuncId}{cap:List SV}(hcap:bV cap=true)(hk:PC prog g ([.ag (ae y)]++cap) (·=ah (ao.name y))):PC prog 194 [.ag (ae y),ah k,.ip [.fn g [] cap]] (·=ab (wu (ao.name y) k)):=by
 refine pB 11 Tryz.func194 ?_;have hkc:=λo:Nat=>bU (o:=o) (dA y);have hxl:(ae y).length=14:=rfl;have hxt:(ae y).take 14=ae y:=rfl
 exact(aA hkc)<|(e9 (bx hxl hxt))<|(zK hk (hwk:=cC.refl (kP (by simp only[bV,mh,dA];rfl) hcap)))<|(zQ)<|(zK (rZ (ao.name y) k))<|(zR)<|zo [.tmp 5]
def QX (h:p:=by
  refine pB 32 vaz ?_;have hkc:=λo:Nat=>bU (o:=o) (va0 x);have hkl:=λo:Nat=>bF (enc:=va1) va0 o l;have hkp:=λo:Nat=>bU (o:=o) hcap;have hxl:(va1 x).length=va2:=rfl;simp only[va2] at hxl;have hxt:(va1 x).take va2=va1 x:=rfl;simp only[va2] at hxt;have hon:(va1 x).all eM=true:=rfl;have hnk:∀o:Nat,aO o (.fn g [] cap)=.fn g [] cap:=λo=>uW (by rw[mh,hcap];rfl);have hnc:∀o:Nat,eG o cap=false:=λo=>cr hcap;have hnx:∀o:Nat,eG o (va1 x)=false:=λo=>cr (va0 x)
  have hgf:bV [SV.fn g [] cap]=true:=by rw[bV,mh,hcap];rfl
  have hbl:∀B:Nat,iG B (l.flatMap va1)=true:=λB=>bQ (aD va0 l);have hrl:∀r:Nat->Nat,mM r (l.flatMap va1)=l.flatMap va1:=λr=>bq (aD va0 l);have hbc:∀B:Nat,iG B (va1 x)=true:=λB=>bQ (va0 x);have hrc:∀r:Nat->Nat,mM r (va1 x)=va1 x:=λr=>bq (va0 x);have hbq:∀(B:Nat) (q:List va3),iG B (q.flatMap va1)=true:=λB q=>bQ (aD va0 q);have hrq:∀(r:Nat->Nat) (q:List va3),mM r (q.flatMap va1)=q.flatMap va1:=λr q=>bq (aD va0 q);have hpart:=va4 ho (va5 x);have hbs:=va6 l hlen (g:=va7) (cap:=[.ip [.fn g [] cap]]) rfl (va5 x) _ (λy _=>va8 y (va5 x) hcap (hk y)) hpart;generalize hpos:va9 l (va5 x)=pos at hpart hbs
  have hput:vba l x=if vbb l (va5 x) pos=true then l.set pos x else l.take pos++x::l.drop pos:=by rw[vba,hpos]
  refine(aA (gr hkc hnk hnc hnx))<|(e9 (bx hxl hxt))<|(zK (hk x) (hwk:=cC.refl (kP (by simp only[bV,mh,va0];rfl) hcap)))<|(zQ)<|(zK hbs (hwk:=.cons (.sl _ _ _) (.cons (.a _) (.cons (.fn .nil (.cons (.ptr rfl (cC.refl hgf) (Nat.zero_le _)) .nil)) .nil))))<|(zR)<|(zC) ?_
  by_cases hne:l=[]
  ·subst hne
   have hf0:vbb [] (va5 x) pos=false:=by unfold vbb;rw[List.getElem?_nil]
   have hp0:pos=0:=Nat.le_zero.1 hpart.le;rw[hf0] at hput ⊢;subst hp0
   refine zS [] (gr hkc hnk hnc hnx) vbc ?_;refine(zR)<|(Ec)<|(e9 (xO hxl hxt hkc hnk hnc hnx)) ?_;refine zS [2] (gr hkc hnk hnc hnx) (vbd x) ?_;exact(zR)<|zo [.tmp 6] (r:=ak va2 [x] va1) (hw:=zv) (hq:=by rw[hput];rfl)
  have hs:0<l.length:=Nat.pos_of_ne_zero (λe=>hne (t8 e))
  refine zS [] (He hkc hnk hnc hnx hkl hbl hrl) (vbe l (by ((try simp only[va2,va7] at *)<;>omega)) hne) ?_;refine(zR)<|(zV) ?_
  cases hfd:vbb l (va5 x) pos
  ·rw[hfd,v6 g9] at hput
   refine(zN)<|(e9 (He hxl hxt hkc hnk hnc hnx hkl)) ?_;refine zS [3,4] (bx (OV hkc hnk hnc hnx hkl hbl hrl hrc hbc) (bx hrq hbq)) (vbf l pos x hpart.le hs hlen) ?_;exact(zR)<|zo [.tmp 6] (r:=ak va2 (l.take pos++x::l.drop pos) va1) (hw:=zv) (hq:=by rw[hput])
  ·rw[hfd,ut rfl] at hput;refine(zY) ?_
   have hlt:pos<l.length:=by
    apply Decidable.byContradiction;intro hn;unfold vbb at hfd;rw[List.getElem?_eq_none (by ((try simp only[va2,va7] at *)<;>omega))] at hfd;cases hfd
   have hcl:(l.flatMap va1).length=l.length*va2:=bg (enc:=va1) (e:=va2) gc l;simp only[va2] at hcl;have hst:=q9 (enc:=va1) (e:=va2) gc x hlt
   refine(aA (He hlt hxl hxt hcl (show pos*va2+va2<=l.length*va2 by ((try simp only[va2,va7] at *)<;>omega)) hon hst))<|(zV) ?_
   have hsl:(l.set pos x).length=l.length:=List.length_set
   exact zo [.tmp 6] (r:=.sl l.length va2 ((l.set pos x).flatMap va1)) (hw:=.buf rfl (by rw[<-hsl,eD (enc:=va1) (e:=va2) gc];exact cC.refl (aD va0 _)) (by rw[bg (enc:=va1) (e:=va2) gc,hsl];exact Nat.le_refl _)) (hq:=by rw[hput,ak,hsl])):p:=h
open Go.Proofs.Tryz renaming func110 -> vaz in
open Go.Proofs renaming ae -> va1,ao -> va3,ry -> va9,df -> vba,ou -> vbb in
open Go.Ev renaming vc -> va2,P0 -> va7 in
open Go.Proofs.ao renaming name -> va5 in
def DX(l:List ao)(hlen:l.length<=100000)(x:ao){g:FuncId}(hcap:bV cap=true)(hk:∀y,PC prog g ([.ag (ae y)]++cap) (·=ah (ao.name y)))(ho:ko (l.map ao.name)=true):
 PC prog 110 [ak 14 l ae,.ag (ae x),.fn g [] cap] (·=ak 14 (Proofs.df l x) ae):=by
 have va0:=@dA;have va4:=@Ly;have va6:=@Gi;have va8:=@wI;have vbc:=@wD;have vbd:=@AQ;have vbe:=@pV;have vbf:=@DD;exact QX
def rz(l:List bO)(k:List Nat):Nat:=(l.takeWhile λx=>gB (bO.key x) k).length
def nB(l:List bO)(x:bO):List bO:=if ra l (bO.key x) (rz l (bO.key x))=true then l.set (rz l (bO.key x)) x else l.take (rz l (bO.key x))++x::l.drop (rz l (bO.key x))
def Lz{l:List bO}(ho:ko (l.map bO.key)=true)(k:List Nat):A6 l k (rz l k):=
 ⟨(qN bO.key ho k).1,(qN bO.key ho k).2⟩
def wJ(y:bO)(k:List Nat){g:FuncId}{cap:List SV}(hcap:bV cap=true)(hk:PC prog g ([.ag (aI y)]++cap) (·=ah (bO.key y))):PC prog 198 [.ag (aI y),ah k,.ip [.fn g [] cap]] (·=ab (wu (bO.key y) k)):=by
 refine pB 11 Tryz.func198 ?_;have hkc:=λo:Nat=>bU (o:=o) (gJ y);have hxl:(aI y).length=2:=rfl;have hxt:(aI y).take 2=aI y:=rfl
 exact(aA hkc)<|(e9 (bx hxl hxt))<|(zK hk (hwk:=cC.refl (kP (by simp only[bV,mh,gJ];rfl) hcap)))<|(zQ)<|(zK (rZ (bO.key y) k))<|(zR)<|zo [.tmp 5]
open Go.Proofs.Tryz renaming func118 -> vaz in
open Go.Proofs renaming aI -> va1,bO -> va3,rz -> va9,nB -> vba,ra -> vbb in
open Go.Ev renaming JS -> va2,P1 -> va7 in
open Go.Proofs.bO renaming key -> va5 in
def DY(l:List bO)(hlen:l.length<=100000)(x:bO){g:FuncId}(hcap:bV cap=true)(hk:∀y,PC prog g ([.ag (aI y)]++cap) (·=ah (bO.key y)))(ho:ko (l.map bO.key)=true):
 PC prog 118 [ak 2 l aI,.ag (aI x),.fn g [] cap] (·=ak 2 (Proofs.nB l x) aI):=by
 have va0:=@gJ;have va4:=@Lz;have va6:=@Gj;have va8:=@wJ;have vbc:=@wG;have vbd:=@AR;have vbe:=@wH;have vbf:=@DE;exact QX
open Go.Proofs.Tryz renaming func196 -> vaa in
open Go.Ev renaming vc -> vab in
open Go.Proofs renaming ae -> vac in
def DH{l:List (ao)}(p:ao->Bool)(hlen:l.length<=1000000)(hp:∀x∈l,PC prog fid ((first++[.ag (ae x)])++cap) (·=ai (p x)))(hg:bV first=true/\bV cap=true):PC prog 196 [ak 14 l ae,.fn fid first cap] (·=ab (fP p l)):=by
 have vad:=@ae.eq_1;exact JD
def ud{l:List (ao)}(p:ao->Bool)(hlen:l.length<=1000000)(hp:∀x∈l,PC prog fid ((first++[.ag (ae x)])++cap) (·=ai (p x)))(hg:bV first=true/\bV cap=true):PC prog 115 [ak 14 l ae,.fn fid first cap] (·=ai (l.any p)):=by
 refine pB 9 Tryz.func115 ?_;exact(jn)<|(zK (DH p hlen hp hg) (hwk:=.cons (Wk.sl _ _ _) (.cons (.fn (cC.refl hg.1) (cC.refl hg.2)) .nil)))<|(zR)<|zo [.tmp 4] (hq:=by rw[nw])
def j6(r:List ao×Int):SV:=.cA [.ag [ak 14 r.1 ae],ab r.2]
def dg(k:Int):PC prog 112 [ab k] (·=j6 ([],k)):=by
 refine pB 6 Tryz.func112 ?_;exact(og)<|jW [.cell 2 46,.tmp 3] (r:=.cA [.ag [.sl 0 14 []],ab k]) (hw:=zv)
def AT(p:ao):PC prog 111 [.ag (ae p)] (·=ah p.name):=by
 refine pB 5 Tryz.func111 ?_;exact(aA @ae.eq_1)<|(zV)<|zo [.tmp 2]
def AU(p:bO):PC prog 119 [.ag (aI p)] (·=ah p.key):=by
 refine pB 5 Tryz.func119 ?_;exact(aA @aI.eq_1)<|(zV)<|zo [.tmp 2]
def fH(ps:List ao)(hlen:ps.length<=100000)(ho:ko (ps.map ao.name)=true)(p:ao):PC prog 109 [.ag (ae p),.ip [ak 14 ps ae]] (·=j6 (Proofs.df ps p,0)):=by
 refine pB 10 Tryz.func109 ?_;have hput:=DX ps hlen p (g:=111) (cap:=[]) rfl AT ho;rw[dT] at hput ⊢
 exact(jn)<|(zK hput (hfl:=.inr zr))<|(zR)<|jW [.cell 3 46,.tmp 4]
def Gv(e:bC)(q:ao):PC prog 117 [.ag (ae q),.ip (ar e)] (·=ai (decide (q.bu=e.bu)&&decide (q.slot=e.slot))):=by
 refine pB 16 Tryz.func117 ?_;refine(aA (bx @ae.eq_1 @ar.eq_1)) ?_;cases h:decide (q.bu=e.bu)
 ·exact(aA h)<|zo [.tmp 3]
 ·exact(aA h)<|zo [.tmp 3]
def Gx(p q:ao):PC prog 120 [.ag (ae q),.ip (ae p)] (·=ai (decide (q.bu=p.name))):=by
 refine pB 9 Tryz.func120 ?_;exact(aA @ae.eq_1)<|(zV)<|zo [.tmp 3]
def uf(ps:List ao)(hlen:ps.length<=1000000)(d:ao->Bool){g:FuncId}(hcap:bV cap=true)(hp:∀q∈ps,PC prog g ([.ag (ae q)]++cap) (·=ai (d q))):PC prog 114 [.fn g [] cap,.ip [ak 14 ps ae]] (·=ai (ps.any d)):=by
 refine pB 8 Tryz.func114 ?_;have h:=ud (l:=ps) d (fid:=g) (first:=[]) (cap:=cap) hlen hp ⟨rfl,hcap⟩
 exact(jn)<|(zK h (hwk:=cC.cons (Wk.sl _ _ _) (.cons (.fn .nil (cC.refl hcap)) .nil)))<|(zR)<|zo [.tmp 3]
def rm(e:bC):ao:=⟨e.part,e.kind,[],[],e.day,e.day,false,[],0,0,0,0,0,0⟩
def BC(c:List aU)(ps:List ao)(e:bC)(is:Bool):List ao×Int:=
 if is=true then ([],3) else if (dU c e.kind).isNone=true then ([],4) else if ((ps.length:Int)=20000) then ([],7) else (df ps (rm e),0)
def Au(p:ao)(e:bC):ao:={ p with bu:=e.bu,slot:=e.slot }
def AG(p:ao):ao:={ p with bu:=[],slot:=[] }
def nQ(p:ao)(e:bC):ao:={ p with since:=eF p.since e.day,l1:=0,l2:=0,l3:=0,l4:=0,l5:=0,l6:=0 }
def rQ(p:ao)(e:bC):ao:={ p with props:=nB p.props ⟨e.key,e.value⟩ }
def rP(p:ao):ao:={ p with cM:=true }
def jV(c:List aU)(ps:List ao)(e:bC)(p h:ao):List ao×Int:=
 let k:=(dU c p.kind).getD aU.zero
 if e.op=2 then (if (k.vehicle||!vp c h.kind e.slot p.kind)=true then ([],4) else if p.bu≠[] then ([],5) else
  if (ps.any λq=>decide (q.bu=e.bu)&&decide (q.slot=e.slot))=true then ([],6) else (df ps (Au p e),0))
 else if e.op=3 then (if p.bu=[] then ([],5) else (df ps (AG p),0))
 else if e.op=4 then (if k.vehicle=true then (df ps p,0) else ([],4))
 else if e.op=5 then (df ps (nQ p e),0)
 else if e.op=6 then (if 60<((Proofs.nB p.props ⟨e.key,e.value⟩).length:Int) then ([],7) else (df ps (rQ p e),0))
 else if e.op=7 then (if p.bu≠[] then ([],5) else if (ps.any λq=>decide (q.bu=p.name))=true then ([],5) else (df ps (rP p),0))
 else (df ps p,0)
def aX(c:List aU)(ps:List ao)(e:bC):List ao×Int:=
 if kE c ps=true then (if gy e=true then
  (if e.op=1 then BC c ps e (pq ps (nL 0 [] ps) e.part).isSome else
   match pq ps (nL 0 [] ps) e.part,(if e.op=2 then pq ps (nL 0 [] ps) e.bu else pq ps (nL 0 [] ps) e.part) with
   | some p,some h=>if (p.cM||h.cM)=true then ([],5) else jV c ps e p h
   | _,_=>([],2))
  else ([],1)) else ([],1)
def qy{c:List aU}{ps:List ao}{m:List (List Nat×Int)}:∀{taken:List (iC×Bool)} {l:List ao},fW c ps m taken l=true->∀p∈l,kq c p=true
 | _,[],_,p,hp=>by simp at hp
 | taken,q::r,h,p,hp=>by
  rw[fW,ac,ac] at h
  rcases t7 hp with rfl | hp
  ·exact h.1
  ·cases hd:decide (q.bu=[]) with
   | true=>rw[hd,an] at h;exact qy h.2.2 p hp
   | false=>rw[hd,au,ac] at h;exact qy h.2.2.2 p hp
def Jf{c:List aU}{ps:List ao}(h:kE c ps=true){p:ao}(hp:p∈ps):p.props.length<=60/\ko (p.props.map bO.key)=true:=by
 unfold kE at h;simp only[ac] at h;have:=qy h.2.2.2 p hp;unfold kq at this;simp only[ac,bd,wn] at this;refine⟨by have:=this.2.2.2.2.2.1;omega,this.2.2.2.2.2.2.2.1⟩
def zm(c:List aU)(ps:List ao)(e:bC)(hc:mu c)(hlen:ps.length<=100000)(hps:∀p∈ps,fq p)(he:lK e):PC prog 48 [.ag [ak 3 c aq],.ag [ak 14 ps ae],.ag (ar e)] (·=j6 (aX c ps e)):=by
 have hlen1:ps.length<=1000000:=by omega
 have hct:∀k∈c,k.bN.length<=1000000/\∀s∈k.bN,s.kinds.length<=1000000:=λk hk=>⟨(hc.kind k hk).2,λs hs=>(hc.slot k hk s hs).2⟩;have hy:Rp ps (nL 0 [] ps):=Ci i4 (Eb ps);have hvE:=GV e he;refine pB 235 Tryz.func48 ?_;rw[dz] at hvE ⊢
 refine(jn)<|(zK (GW c ps hc hlen1 hps)) ?_
 cases h1:Proofs.kE c ps
 ·exact(zR)<|(cL)<|jW [.cell 6 46,.tmp 7] (r:=.cA [.ag [.sl 0 14 []],ab 1]) (hw:=zv) (hq:=by rw[show aX c ps e=([],1) by simp[aX,h1]];rfl)
 refine(zQ)<|(zK hvE) ?_
 cases h2:gy e
 ·exact(zR)<|(cL)<|jW [.cell 6 46,.tmp 7] (r:=.cA [.ag [.sl 0 14 []],ab 1]) (hw:=zv) (hq:=by rw[show aX c ps e=([],1) by simp[aX,h1,h2]];rfl)
 refine(zR)<|(zN) ?_
 have ho:ko (ps.map ao.name)=true:=by
  unfold Proofs.kE at h1;simp only[ac] at h1;exact h1.2.2.1
 refine zA [(3,.ptr 0 0),(4,.ptr 1 0),(5,.ptr 2 0),(6,.ptr 3 0),(7,ab 0)] [.cells [ak 3 c aq],.cells [ak 14 ps ae],.cells [ab e.op,ab e.day,ah e.part,ah e.kind,ah e.bu,ah e.slot,ah e.key,ah e.value,ab e.u1,ab e.u2,ab e.u3,ab e.u4,ab e.u5,ab e.u6],.cells [.a (.slice none 0 0 (some 0))]] zH<|zZ [(3,.ip [ak 3 c aq]),(4,.ptr 1 0),(5,.ptr 2 0),(6,.ptr 3 0),(7,ab 0)] 0 rfl (gm @ak.eq_1)<|zZ [(3,.ip [ak 3 c aq]),(4,.ip [ak 14 ps ae]),(5,.ptr 2 0),(6,.ptr 3 0),(7,ab 0)] 1 rfl (gm @ak.eq_1)<|zZ [(3,.ip [ak 3 c aq]),(4,.ip [ak 14 ps ae]),(5,.ip [ab e.op,ab e.day,ah e.part,ah e.kind,ah e.bu,ah e.slot,ah e.key,ah e.value,ab e.u1,ab e.u2,ab e.u3,ab e.u4,ab e.u5,ab e.u6]),(6,.ptr 3 0),(7,ab 0)] 2 rfl (gm @ak.eq_1) ?_
 (try change aF _ _ _ _ _)
 refine(zC)<|(zK (rD ps hlen1) (hfl:=.inr zr)) ?_
 generalize hM:nL 0 [] ps=M at hy
 refine(cP (bx @B5.eq_1 hM))<|(og)<|(zC) ?_
 have hG:=mX ps M e.part hy
 cases hg:pq ps M e.part with
 | none=>
  rw[hg] at hG
  refine(zK hG (hfl:=.inr zr))<|(cP (cO @iU.eq_1 @ae.eq_1 @ao.zero.eq_1)) ?_
  by_cases ho1:e.op=1
  ·refine(aA (wl ho1))<|(cL)<|(Ma) ?_
   have hF:=kC c e.kind hc.len
   cases hf:dU c e.kind with
   | none=>
    rw[hf] at hF
    exact(zK hF (hfl:=.inr zr))<|(cP (cO @iU.eq_1 @aq.eq_1 @aU.zero.eq_1))<|(wO)<|(zC)<|(zK (dg _) (hfl:=.inr zr))<|(cP @ak.eq_1)<|jW [.cell 6 46,.tmp 7] (hq:=by rw[show aX c ps e=([],4) by simp[aX,BC,h1,h2,hM,hg,ho1,hf]];rfl)
   | some k=>
    rw[hf] at hF
    refine(zK hF (hfl:=.inr zr))<|(cP (bx @iU.eq_1 @aq.eq_1))<|(Ec) ?_
    by_cases hl:(ps.length:Int)=20000
    ·exact(aA (wl hl))<|(zY)<|(zC)<|(zK (dg _) (hfl:=.inr zr))<|(cP @ak.eq_1)<|jW [.cell 6 46,.tmp 7] (hq:=by rw[show aX c ps e=([],7) by simp[aX,BC,h1,h2,hM,hg,ho1,hf,hl]];rfl)
    ·refine(aA (wd hl))<|(zN) ?_
     have hnext:=fH ps hlen ho (rm e);simp only[dT,rm] at hnext
     exact(zC)<|(zK hnext (hfl:=.inr zw))<|(cP (bx @j6.eq_1 @ak.eq_1))<|jW [.cell 6 46,.tmp 7] (hq:=by rw[show aX c ps e=(Proofs.df ps (rm e),0) by simp[aX,BC,h1,h2,hM,hg,ho1,hf,hl]];rfl)
  by_cases ho2:e.op=2
  ·refine(aA (wd ho1))<|(lf)<|(aA (wl ho2))<|(zY)<|(zC) ?_
   have hH:=mX ps M e.bu hy
   obtain⟨q,b,hq⟩:∃(q:ao) (b:Bool),iU ae ao.zero (pq ps M e.bu)=.cA [.ag (ae q),ai b]:=by
    cases pq ps M e.bu with
    | none=>exact⟨ao.zero,false,rfl⟩
    | some q=>exact⟨q,true,rfl⟩
   rw[hq] at hH
   exact(zK hH (hfl:=.inr zr))<|(cP @ae.eq_1)<|(wO)<|(zC)<|(zK (dg _) (hfl:=.inr zr))<|(cP @ak.eq_1)<|jW [.cell 6 46,.tmp 7] (hq:=by rw[show aX c ps e=([],2) by simp[aX,h1,h2,hM,hg,ho1,ho2]];rfl)
  ·exact(aA (wd ho1))<|(lf)<|(aA (wd ho2))<|(lf)<|(zY)<|(zC)<|(zK (dg _) (hfl:=.inr zr))<|(cP @ak.eq_1)<|jW [.cell 6 46,.tmp 7] (hq:=by rw[show aX c ps e=([],2) by simp[aX,h1,h2,hM,hg,ho1,ho2]];rfl)
 | some p=>
  rw[hg] at hG
  refine(zK hG (hfl:=.inr zr))<|(cP (bx @iU.eq_1 @ae.eq_1)) ?_
  by_cases ho1:e.op=1
  ·exact(aA (wl ho1))<|(cL)<|(zY)<|(zC)<|(zK (dg _) (hfl:=.inr zr))<|(cP @ak.eq_1)<|jW [.cell 6 46,.tmp 7] (hq:=by rw[show aX c ps e=([],3) by simp[aX,BC,h1,h2,hM,hg,ho1]];rfl)
  refine zA [(3,.ip [ak 3 c aq]),(4,.ip [ak 14 ps ae]),(5,.ip [ab e.op,ab e.day,ah e.part,ah e.kind,ah e.bu,ah e.slot,ah e.key,ah e.value,ab e.u1,ab e.u2,ab e.u3,ab e.u4,ab e.u5,ab e.u6]),(6,.ptr 3 0),(7,ab 0),(8,.ptr 4 0),(9,.fn 109 [] [.ip [ak 14 ps ae]]),(10,.fn 112 [] []),(11,.ptr 5 0),(12,ai true)] [.gone,.gone,.gone,.cells [.a (.slice none 0 0 (some 0))],.cells [ak 14 ps ae,lR AV.str ab M],.cells [ah p.name,ah p.kind,ah p.bu,ah p.slot,ab p.made,ab p.since,ai p.cM,ak 2 p.props aI,ab p.l1,ab p.l2,ab p.l3,ab p.l4,ab p.l5,ab p.l6]] zH<|(aA (wd ho1))<|(lf) ?_
  by_cases ho2:e.op=2
  ·refine(aA (wl ho2))<|(zY)<|(zC) ?_
   have hH:=mX ps M e.bu hy
   cases hh:pq ps M e.bu with
   | none=>
    rw[hh] at hH
    exact(zK hH (hfl:=.inr zr))<|(cP (cO @iU.eq_1 @ae.eq_1 @ao.zero.eq_1))<|(wO)<|(zC)<|(zK (dg _) (hfl:=.inr zr))<|(cP @ak.eq_1)<|jW [.cell 6 46,.tmp 7] (hq:=by rw[show aX c ps e=([],2) by simp[aX,h1,h2,hM,hg,ho1,ho2,hh]];rfl)
   | some h=>
    rw[hh] at hH
    refine(zK hH (hfl:=.inr zr))<|(cP (bx @iU.eq_1 @ae.eq_1))<|(Ec) ?_
    cases f1:p.cM;rotate_left
    ·exact(aA f1)<|(zY)<|(zC)<|(zK (dg _) (hfl:=.inr zr))<|(cP @ak.eq_1)<|jW [.cell 6 46,.tmp 7] (hq:=by rw[show aX c ps e=([],5) by simp[aX,h1,h2,hM,hg,ho1,ho2,hh,f1]];rfl)
    cases f2:h.cM;rotate_left
    ·exact(aA (bx f1 f2))<|(zY)<|(zC)<|(zK (dg _) (hfl:=.inr zr))<|(cP @ak.eq_1)<|jW [.cell 6 46,.tmp 7] (hq:=by rw[show aX c ps e=([],5) by simp[aX,h1,h2,hM,hg,ho1,ho2,hh,f1,f2]];rfl)
    refine(aA (bx f1 f2))<|(lf)<|(zC) ?_
    have hF:=kC c p.kind hc.len
    obtain⟨kd,b,hq,hkd⟩:∃(kd:aU) (b:Bool),iU aq aU.zero (dU c p.kind)=.cA [.ag (aq kd),ai b]/\(dU c p.kind).getD aU.zero=kd:=by
     cases dU c p.kind with
     | none=>exact⟨aU.zero,false,rfl,rfl⟩
     | some q=>exact⟨q,true,rfl,rfl⟩
    rw[hq] at hF
    refine(zK hF (hfl:=.inr zr))<|(cP @aq.eq_1)<|(zV)<|zA [(3,.ip [ak 3 c aq]),(4,.ip [ak 14 ps ae]),(5,.ip [ab e.op,ab e.day,ah e.part,ah e.kind,ah e.bu,ah e.slot,ah e.key,ah e.value,ab e.u1,ab e.u2,ab e.u3,ab e.u4,ab e.u5,ab e.u6]),(6,.ptr 3 0),(7,ab 0),(9,.fn 109 [] [.ip [ak 14 ps ae]]),(10,.fn 112 [] []),(11,.ptr 5 0),(15,.ptr 6 0),(17,.fn 114 [] [.ip [ak 14 ps ae]]),(18,.ptr 7 0),(123,ab e.op)] [.gone,.gone,.gone,.cells [.a (.slice none 0 0 (some 0))],.gone,.cells [ah p.name,ah p.kind,ah p.bu,ah p.slot,ab p.made,ab p.since,ai false,ak 2 p.props aI,ab p.l1,ab p.l2,ab p.l3,ab p.l4,ab p.l5,ab p.l6],.cells [ah h.name,ah h.kind,ah h.bu,ah h.slot,ab h.made,ab h.since,ai false,ak 2 h.props aI,ab h.l1,ab h.l2,ab h.l3,ab h.l4,ab h.l5,ab h.l6],.cells [ah kd.name,ai kd.vehicle,ak 3 kd.bN bJ]] (cm @ae.eq_1)<|(zB) ?_
    refine(aA (wl ho2))<|(gz) ?_
    cases g1:kd.vehicle;rotate_left
    ·exact(aA g1)<|(zY)<|(zC)<|(zK (dg _) (hfl:=.inr zr))<|(cP @ak.eq_1)<|jW [.cell 6 46,.tmp 7] (hq:=by rw[show aX c ps e=([],4) by simp[aX,h1,h2,hM,hg,ho1,ho2,hh,f1,f2,jV,hkd,g1]];rfl)
    refine(e9 g1)<|(zK (we c h.kind e.slot p.kind hc.len hct)) ?_
    cases g2:Proofs.vp c h.kind e.slot p.kind
    ·exact(zR)<|(zY)<|(zC)<|(zK (dg _) (hfl:=.inr zr))<|(cP @ak.eq_1)<|jW [.cell 6 46,.tmp 7] (hq:=by rw[show aX c ps e=([],4) by simp[aX,h1,h2,hM,hg,ho1,ho2,hh,f1,f2,jV,hkd,g1,g2]];rfl)
    refine(zR)<|(zN) ?_
    by_cases g3:p.bu=[];rotate_left
    ·exact(aA (wd g3))<|(zY)<|(zC)<|(zK (dg _) (hfl:=.inr zr))<|(cP @ak.eq_1)<|jW [.cell 6 46,.tmp 7] (hq:=by rw[show aX c ps e=([],5) by simp[aX,h1,h2,hM,hg,ho1,ho2,hh,f1,f2,jV,hkd,g1,g2,g3]];rfl)
    refine(aA (wl g3))<|(Ma) ?_
    have hho:=uf ps hlen1 (λq=>decide (q.bu=e.bu)&&decide (q.slot=e.slot)) (g:=117) (cap:=[.ip [ab e.op,ab e.day,ah e.part,ah e.kind,ah e.bu,ah e.slot,ah e.key,ah e.value,ab e.u1,ab e.u2,ab e.u3,ab e.u4,ab e.u5,ab e.u6]]) rfl (λq _=>by rw[<-dz];exact Gv e q);refine(zK hho) ?_;cases g4:ps.any λq=>decide (q.bu=e.bu)&&decide (q.slot=e.slot);rotate_left
    ·exact(zR)<|(zY)<|(zC)<|(zK (dg _) (hfl:=.inr zr))<|(cP @ak.eq_1)<|jW [.cell 6 46,.tmp 7] (hq:=by rw[show aX c ps e=([],6) by simp[aX,h1,h2,hM,hg,ho1,ho2,hh,f1,f2,jV,hkd,g1,g2,g3,g4,-bB]];rfl)
    refine(zR)<|(zN) ?_
    (try change aF _ _ _ _ _)
    refine(zs) ?_;refine oe [0,1,0,4,3,19,63,127] ?_;refine(rH) ?_;refine SD.e ii rfl ii rfl rfl ii zl ?_;refine(rH) ?_;refine SD.e ii rfl ii rfl rfl ii zl ?_;refine(zM) ?_
    (try change aF _ _ _ _ _)
    obtain⟨R,hR⟩:∃R,R=Proofs.df ps (Au p e):=⟨_,rfl⟩;have hnext:=fH ps hlen ho (Au p e);rw[<-hR] at hnext;simp only[dT,f1,Au,AG,nQ,rQ,rP] at hnext
    exact(zC)<|(zK hnext (hfl:=.inr zw))<|(cP (bx @j6.eq_1 @ak.eq_1))<|jW [.cell 6 46,.tmp 7] (hq:=by rw[show aX c ps e=(R,0) by rw[hR];simp[aX,h1,h2,hM,hg,ho1,ho2,hh,f1,f2,jV,hkd,g1,g2,g3,g4,-bB,-ds]];rfl)
  ·refine(aA (wd ho2))<|(lf)<|(zN) ?_
   cases f1:p.cM;rotate_left
   ·exact(aA f1)<|(zY)<|(zC)<|(zK (dg _) (hfl:=.inr zr))<|(cP @ak.eq_1)<|jW [.cell 6 46,.tmp 7] (hq:=by rw[show aX c ps e=([],5) by simp[aX,h1,h2,hM,hg,ho1,ho2,f1]];rfl)
   have f2:=f1
   refine(aA (bx f1 f2))<|(lf)<|(zC) ?_
   have hF:=kC c p.kind hc.len
   obtain⟨kd,b,hq,hkd⟩:∃(kd:aU) (b:Bool),iU aq aU.zero (dU c p.kind)=.cA [.ag (aq kd),ai b]/\(dU c p.kind).getD aU.zero=kd:=by
    cases dU c p.kind with
    | none=>exact⟨aU.zero,false,rfl,rfl⟩
    | some q=>exact⟨q,true,rfl,rfl⟩
   rw[hq] at hF
   refine(zK hF (hfl:=.inr zr))<|(cP @aq.eq_1)<|(zV)<|zA [(3,.ip [ak 3 c aq]),(4,.ip [ak 14 ps ae]),(5,.ip [ab e.op,ab e.day,ah e.part,ah e.kind,ah e.bu,ah e.slot,ah e.key,ah e.value,ab e.u1,ab e.u2,ab e.u3,ab e.u4,ab e.u5,ab e.u6]),(6,.ptr 3 0),(7,ab 0),(9,.fn 109 [] [.ip [ak 14 ps ae]]),(10,.fn 112 [] []),(11,.ptr 5 0),(15,.ptr 6 0),(17,.fn 114 [] [.ip [ak 14 ps ae]]),(18,.ptr 7 0),(123,ab e.op)] [.gone,.gone,.gone,.cells [.a (.slice none 0 0 (some 0))],.gone,.cells [ah p.name,ah p.kind,ah p.bu,ah p.slot,ab p.made,ab p.since,ai false,ak 2 p.props aI,ab p.l1,ab p.l2,ab p.l3,ab p.l4,ab p.l5,ab p.l6],.cells [ah p.name,ah p.kind,ah p.bu,ah p.slot,ab p.made,ab p.since,ai false,ak 2 p.props aI,ab p.l1,ab p.l2,ab p.l3,ab p.l4,ab p.l5,ab p.l6],.cells [ah kd.name,ai kd.vehicle,ak 3 kd.bN bJ]] (cm @ae.eq_1)<|(zB) ?_
   refine(aA (wd ho2))<|(zN) ?_
   by_cases ho3:e.op=3
   ·refine(aA (wl ho3))<|(zY) ?_
    by_cases g3:p.bu=[]
    ·exact(aA (wl g3))<|(zY)<|(zC)<|(zK (dg _) (hfl:=.inr zr))<|(cP @ak.eq_1)<|jW [.cell 6 46,.tmp 7] (hq:=by rw[show aX c ps e=([],5) by simp[aX,h1,h2,hM,hg,ho1,ho2,f1,jV,hkd,ho3,g3]];rfl)
    refine(aA (wd g3))<|(lf) ?_
    (try change aF _ _ _ _ _)
    obtain⟨R,hR⟩:∃R,R=Proofs.df ps (AG p):=⟨_,rfl⟩;have hnext:=fH ps hlen ho (AG p);rw[<-hR] at hnext;simp only[dT,f1,Au,AG,nQ,rQ,rP] at hnext
    exact(zC)<|(zK hnext (hfl:=.inr zw))<|(cP (bx @j6.eq_1 @ak.eq_1))<|jW [.cell 6 46,.tmp 7] (hq:=by rw[show aX c ps e=(R,0) by rw[hR];simp[aX,h1,h2,hM,hg,ho1,ho2,f1,jV,hkd,ho3,g3]];rfl)
   refine(aA (wd ho3))<|(zN) ?_
   by_cases ho4:e.op=4
   ·refine(aA (wl ho4))<|(zY) ?_
    cases g1:kd.vehicle
    ·exact(aA g1)<|(zY)<|(zC)<|(zK (dg _) (hfl:=.inr zr))<|(cP @ak.eq_1)<|jW [.cell 6 46,.tmp 7] (hq:=by rw[show aX c ps e=([],4) by simp[aX,h1,h2,hM,hg,ho1,ho2,f1,jV,hkd,ho3,ho4,g1]];rfl)
    refine(aA g1)<|(zN) ?_
    (try change aF _ _ _ _ _)
    obtain⟨R,hR⟩:∃R,R=Proofs.df ps p:=⟨_,rfl⟩;have hnext:=fH ps hlen ho p;rw[<-hR] at hnext;simp only[dT,f1,Au,AG,nQ,rQ,rP] at hnext
    exact(zC)<|(zK hnext (hfl:=.inr zw))<|(cP (bx @j6.eq_1 @ak.eq_1))<|jW [.cell 6 46,.tmp 7] (hq:=by rw[show aX c ps e=(R,0) by rw[hR];simp[aX,h1,h2,hM,hg,ho1,ho2,f1,jV,hkd,ho3,ho4,g1]];rfl)
   refine(aA (wd ho4))<|(zN) ?_
   by_cases ho5:e.op=5
   ·refine(aA (wl ho5))<|(zY)<|(aA @fk) ?_
    (try change aF _ _ _ _ _)
    obtain⟨R,hR⟩:∃R,R=Proofs.df ps (nQ p e):=⟨_,rfl⟩;have hnext:=fH ps hlen ho (nQ p e);rw[<-hR] at hnext;simp only[dT,f1,Au,AG,nQ,rQ,rP] at hnext
    exact(zC)<|(zK hnext (hfl:=.inr zw))<|(cP (bx @j6.eq_1 @ak.eq_1))<|jW [.cell 6 46,.tmp 7] (hq:=by rw[show aX c ps e=(R,0) by rw[hR];simp[aX,h1,h2,hM,hg,ho1,ho2,f1,jV,hkd,ho3,ho4,ho5]];rfl)
   refine(aA (wd ho5))<|(zN) ?_
   by_cases ho6:e.op=6
   ·refine(aA (wl ho6))<|(zY) ?_
    have hpp:p∈ps:=by
     unfold pq at hg;split at hg
     ·exact aL hg
     ·cases hg
    have hpl:p.props.length<=60/\ko (p.props.map bO.key)=true:=Jf h1 hpp;have hput:=DY p.props i4 ⟨e.key,e.value⟩ (g:=119) (cap:=[]) rfl AU hpl.2;rw[pg] at hput
    refine(zC)<|(zK hput (hfl:=.inr zr))<|(zR) ?_
    by_cases g3:60<((Proofs.nB p.props ⟨e.key,e.value⟩).length:Int)
    ·exact(aA (wl g3))<|(zY)<|(zC)<|(zK (dg _) (hfl:=.inr zr))<|(cP @ak.eq_1)<|jW [.cell 6 46,.tmp 7] (hq:=by rw[show aX c ps e=([],7) by simp[aX,h1,h2,hM,hg,ho1,ho2,f1,jV,hkd,ho3,ho4,ho5,ho6,g3]];rfl)
    refine(aA (wd g3))<|(zN) ?_
    (try change aF _ _ _ _ _)
    obtain⟨R,hR⟩:∃R,R=Proofs.df ps (rQ p e):=⟨_,rfl⟩;have hnext:=fH ps hlen ho (rQ p e);rw[<-hR] at hnext;simp only[dT,f1,Au,AG,nQ,rQ,rP] at hnext
    exact(zC)<|(zK hnext (hfl:=.inr zw))<|(cP (bx @j6.eq_1 @ak.eq_1))<|jW [.cell 6 46,.tmp 7] (hq:=by rw[show aX c ps e=(R,0) by rw[hR];simp[aX,h1,h2,hM,hg,ho1,ho2,f1,jV,hkd,ho3,ho4,ho5,ho6,g3]];rfl)
   refine(aA (wd ho6))<|(zN) ?_
   by_cases ho7:e.op=7
   ·refine(aA (wl ho7))<|(zY) ?_
    by_cases g3:p.bu=[];rotate_left
    ·exact(aA (wd g3))<|(zY)<|(zC)<|(zK (dg _) (hfl:=.inr zr))<|(cP @ak.eq_1)<|jW [.cell 6 46,.tmp 7] (hq:=by rw[show aX c ps e=([],5) by simp[aX,h1,h2,hM,hg,ho1,ho2,f1,jV,hkd,ho3,ho4,ho5,ho6,ho7,g3]];rfl)
    refine(e9 (wl g3)) ?_;have hho:=uf ps hlen1 (λq=>decide (q.bu=p.name)) (g:=120) (cap:=[.ip (ae p)]) rfl (λq _=>Gx p q);rw[dT,f1] at hho;refine(zK hho (hwk:=zw)) ?_;cases g4:ps.any λq=>decide (q.bu=p.name);rotate_left
    ·exact(zR)<|(zY)<|(zC)<|(zK (dg _) (hfl:=.inr zr))<|(cP @ak.eq_1)<|jW [.cell 6 46,.tmp 7] (hq:=by rw[show aX c ps e=([],5) by simp[aX,h1,h2,hM,hg,ho1,ho2,f1,jV,hkd,ho3,ho4,ho5,ho6,ho7,g3,g4,-bB]];rfl)
    refine(zR)<|(lf) ?_
    (try change aF _ _ _ _ _)
    obtain⟨R,hR⟩:∃R,R=Proofs.df ps (rP p):=⟨_,rfl⟩;have hnext:=fH ps hlen ho (rP p);rw[<-hR] at hnext;simp only[dT,f1,Au,AG,nQ,rQ,rP] at hnext
    exact(zC)<|(zK hnext (hfl:=.inr zw))<|(cP (bx @j6.eq_1 @ak.eq_1))<|jW [.cell 6 46,.tmp 7] (hq:=by rw[show aX c ps e=(R,0) by rw[hR];simp[aX,h1,h2,hM,hg,ho1,ho2,f1,jV,hkd,ho3,ho4,ho5,ho6,ho7,g3,g4,-bB,-ds]];rfl)
   refine(aA (wd ho7))<|(zN) ?_
   (try change aF _ _ _ _ _)
   obtain⟨R,hR⟩:∃R,R=Proofs.df ps p:=⟨_,rfl⟩;have hnext:=fH ps hlen ho p;rw[<-hR] at hnext;simp only[dT,f1,Au,AG,nQ,rQ,rP] at hnext
   exact(zC)<|(zK hnext (hfl:=.inr zw))<|(cP (bx @j6.eq_1 @ak.eq_1))<|jW [.cell 6 46,.tmp 7] (hq:=by rw[show aX c ps e=(R,0) by rw[hR];simp[aX,h1,h2,hM,hg,ho1,ho2,f1,jV,hkd,ho3,ho4,ho5,ho6,ho7]];rfl)
def sA{a b:List (List Nat)}(h:a.Perm b):ee a=ee b:=by
 have h1:(ee a).Pairwise λa b=>wz a b=true:=Ge a;have h2:(ee b).Pairwise λa b=>wz a b=true:=Ge b;have hp:(ee a).Perm (ee b):=((rU a).trans h).trans (rU b).symm;exact Perm.eq_of_pairwise (λa b _ _ h1 h2=>Fp h1 h2) h1 h2 hp
def Hg(ps:List ao)(m:List (List Nat×Int)):Prop:=(∀e∈m,∃(k:Nat) (x:ao),e.2=(k:Int)/\ps[k]?=some x/\x.name=e.1)/\(m.map (·.1)).Nodup
def kS{K U:Type}[DecidableEq K]{k:K}{l:List (K×U)}:dG k l=true↔k∈l.map (·.1):=by
 unfold dG;simp only[bB,wp,mem_map];exact⟨λ⟨e,h1,h2⟩=>⟨e,h1,h2.symm⟩,λ⟨e,h1,h2⟩=>⟨e,h1,h2.symm⟩⟩
def Eu{ps:List ao}:∀{l:List ao} {i:Nat} {m:List (List Nat×Int)},ps.drop i=l->Hg ps m->Hg ps (nL i m l)
 | [],_,_,_,h=>h
 | p::r,i,m,hd,h=>by
  rw[nL]
  have hp:ps[i]?=some p:=by
   have:=rc (λl=>l[0]?) hd;simpa using this
  have hd2:ps.drop (i+1)=r:=by
   have:=rc (List.drop 1) hd;simpa using this
  refine Eu hd2 ?_
  cases hh:dG p.name m with
  | true=>exact h
  | false=>
   simp only[Bool.false_eq_true,if_false];rw[qB hh];refine⟨λe he=>?_,?_⟩
   ·rcases List.mem_append.1 he with he | he
    ·exact h.1 e he
    ·rw[t6 he];exact⟨i,p,rfl,hp,rfl⟩
   ·rw[b5,List.nodup_append];refine⟨h.2,by simp,λa ha b hb=>?_⟩;simp only[bv,List.map_nil,List.mem_singleton] at hb;subst hb;intro e;subst e;rw[kS.2 ha] at hh;cases hh
def CL(ps:List ao)(i:Int):List Nat:=match ps[i.toNat]? with
 | some p=>p.bu
 | none=>[]
abbrev jv:=List (List Nat×List Nat)
def jU(ps:List ao)(hd:List (List Nat×Int)):jv:=hd.filterMap λe=>if CL ps e.2=[] then none else some (e.1,CL ps e.2)
def yP{ps:List ao}{hd:List (List Nat×Int)}{k:List Nat}(h:k∈(jU ps hd).map (·.1)):k∈hd.map (·.1):=by
 obtain⟨e,he,rfl⟩:=mem_map.1 h;obtain⟨e',he',h2⟩:=List.mem_filterMap.1 he;split at h2
 ·cases h2
 ·cases h2;exact c4 he'
def jk{ps:List ao}:∀{hd:List (List Nat×Int)},(hd.map (·.1)).Nodup->((jU ps hd).map (·.1)).Nodup
 | [],_=>List.nodup_nil
 | e::hd,h=>by
  rw[bv,d6] at h;unfold jU;rw[List.filterMap_cons];split
  ·exact jk h.2
  ·rename_i b hb;split at hb
   ·cases hb
   ·cases hb;rw[bv,d6];exact⟨λhm=>h.1 (yP hm),jk h.2⟩
def HL{U:Type}{l:List (List Nat×U)}{pos:List Nat}{j:Nat}{e:List Nat×U}(hn:(l.map (·.1)).Nodup)(he:l[j]?=some e)(hj:j∉pos):e.1∉(bo l pos).map (·.1):=by
 intro hm;obtain⟨e',he',h2⟩:=mem_map.1 hm;obtain⟨i,hi,h3⟩:=List.mem_filterMap.1 he'
 have h4:(l.map (·.1))[i]?=some e.1:=by rw[aW,h3];exact rc some h2
 have h5:(l.map (·.1))[j]?=some e.1:=by rw[aW,he];rfl
 exact hj ((List.getElem?_inj (br h4) hn).1 (h4.trans h5.symm)▸hi)
def dR:Nat->jv->List (List Nat)->List (List Nat)
 | 0,_,_=>[]
 | n+1,r,ls=>if ls=[] then [] else ((r.filter λe=>ls.contains e.2).map (·.1))++dR n (r.filter λe=>!ls.contains e.2) ((r.filter λe=>ls.contains e.2).map (·.1))
def Ob(ps:List ao)(part:List Nat):jv:=lN part (jU ps (nL 0 [] ps))
def fQ(ps:List ao)(part:List Nat):List (List Nat):=if dG part (nL 0 [] ps)=true then ee (dR (ps.length+2) (Ob ps part) [part]) else []
def nS:∀(n:Nat) {r r':jv} {ls ls':List (List Nat)},r.Perm r'->(∀x,ls.contains x=ls'.contains x)->(ls=[]↔ls'=[])->(dR n r ls).Perm (dR n r' ls')
 | 0,_,_,_,_,_,_,_=>Perm.refl _
 | n+1,r,r',ls,ls',h1,h2,h3=>by
  rw[dR,dR];by_cases h:ls=[]
  ·rw[ut h,ut (h3.1 h)]
  ·rw[v6 h,v6 (λe=>h (h3.2 e))];have e1:(λe:List Nat×List Nat=>ls.contains e.2)=λe=>ls'.contains e.2:=funext λe=>h2 _
   have e2:(λe:List Nat×List Nat=>!ls.contains e.2)=λe=>!ls'.contains e.2:=funext λe=>by rw[h2]
   rw[e1,e2];have p1:=(h1.filter λe=>ls'.contains e.2).map (·.1);have p2:=h1.filter λe=>!ls'.contains e.2;refine p1.append (nS n p2 (λx=>?_) ⟨λe=>?_,λe=>?_⟩)
   ·rw[Bool.eq_iff_iff,cp,cp];exact p1.mem_iff
   ·rw[e] at p1;exact p1.nil_eq.symm
   ·rw[e] at p1;exact p1.eq_nil
def eY(l:List (List Nat)):SO:=if l=[] then .gone else .cells (l.flatMap (aG ah))
def fV{l:List (List Nat)}(h:¬l=[]):eY l=.cells (l.flatMap (aG ah)):=v6 h
def gR:eY []=.gone:=rfl
def fw(o:Nat)(l:List (List Nat)):bI o (eY l)=eY l:=by
 unfold eY;split
 ·rfl
 ·rw[bI];congr 1;exact bU (aD (λ_=>rfl) l)
def eK(r:Nat->Nat)(l:List (List Nat)):pJ r (eY l)=eY l:=by
 unfold eY;split
 ·rfl
 ·rw[J8];congr 1;exact bq (aD (λ_=>rfl) l)
def I1{S:List SO}{l:jv}(s u:List Nat)(hS:S[o]?=some (bH AV.str ah l)):ij prog S 123 (.map o) (.a (.str s)) (.a (.str u))=some (S.set o (bH AV.str ah (cD s u l))):=
 Ie (uv:=ah) (kt:=9) (et:=9) (by simp only[aB]) l8 hS rfl u
def zz{S:List SO}{l:jv}(s:List Nat)(hS:S[o]?=some (bH AV.str ah l)):KQ prog S 123 (.map o) (.a (.str s))=some (S.set o (bH AV.str ah (lN s l))):=
 SI (uv:=ah) (k:=s) (kt:=9) (et:=9) (by simp only[aB]) l8 hS rfl
def jH{n:Nat}{l:jv}:bI n (bH AV.str ah l)=bH AV.str ah l:=mi λ_=>lY _
end Go.Proofs
