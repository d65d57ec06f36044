/- Lemmas of this claim, each with its conditions. -/
import Derived.Test.YtjiejanfnnieaaaGreatJ5
import Derived.Test.YtjiejanfnnieaaaGreatJ4
import Derived.Test.YtjiejanfnnieaaaGreatJ2
import Derived.Shelf.SlGeneric
import Derived.Shelf.SortM.Plain
import Derived.Shelf.SortM.SortNone
import Derived.Ground.SlgmProg
import Derived.Test.YtjiejanfnnieaaaGreatProg
set_option linter.all false
set_option maxHeartbeats 8000000
open Go.Proofs.Tryz (prog func159 func199 func44 func45 func50 func56 isAgg66 isAgg9 sizeOf9)
open List (flatMap_cons append_nil Perm flatMap_nil nil_append mem_map all_eq_true take_zero cons_append foldl_nil range)
open Nat (ble)
open Nat renaming le_refl -> aa, min_eq_left -> ap, reduceEqDiff -> a8, zero_mul -> bi, zero_le -> bs, pos_of_ne_zero -> b5, lt_succ_self -> cd, sub_zero -> ce, not_lt_zero -> ci, succ_mul -> cl, add_comm -> c0, add_zero -> c4, min_def -> dd, sub_self -> d2, lt_irrefl -> ef, min_self -> el, succ_pos -> em, zero_add -> er
open Bool renaming and_eq_true -> ac, not_eq_true' -> bg
open List renaming length_take -> ad, take_append_of_le_length -> af, take_of_length_le -> aj, length_drop -> al, length_map -> am, mem_of_getElem? -> aS, drop_of_length_le -> aW, append_assoc -> a6, getElem?_map -> a7, length_set -> ba, take_length -> bb, flatMap_append -> bc, set_eq_take_append_cons_drop -> bd, replicate -> be, getElem?_cons_succ -> bh, getElem?_eq_none -> bt, length_replicate -> bv, map_cons -> bw, any_eq_true -> b6, all_append -> b7, map_append -> b8, drop_append_of_le_length -> b9, sizeOf_lt_of_mem -> cc, drop_zero -> ch, getElem?_drop -> cn, foldl_append -> co, getElem?_cons_zero -> cp, take_take -> ct, drop_length -> cv, contains_iff_mem -> cH, mem_map_of_mem -> c6, takeWhile_cons -> dc, getElem?_take -> ds, all_cons -> dt, any_eq_false -> du, ext_getElem? -> dv, getElem?_set -> dC, take_add_one -> d0, take_append -> d4, nodup_cons -> d7, drop_drop -> d9
open And renaming intro -> bk
open Int renaming le_refl -> ck
open Array renaming getElem?_modify -> c5
open Go.Proofs.Tryz renaming func355 -> dl, underlying66 -> d3, underlying9 -> d5, zeroValue66 -> d6, zeroValue9 -> d8, sizeOf66 -> es
namespace Go.Proofs
open Go.Ev
set_option maxRecDepth 100000
abbrev aR:SV:=.a (.slice none 0 0 (some 0))
def TJ{n k:Nat}{c:Option Nat}{q:IntKind}(h:k<=n):cQ n c none (some (.int q (k:Int))) none=some (0,k,c):=by
 unfold cQ oC pY;simp only[oL,m7,fc h,Bool.true_or,ak]
def KJ{n k:Nat}{c:Option Nat}{q:IntKind}(h:k<=n):cQ n c (some (.int q (k:Int))) none none=some (k,n,c):=by
 unfold cQ oC;simp only[oL,m7,fc h,ak]
def N2(l:List (List Nat)):(l.flatMap (aH ah)).all eB=true:=by
 induction l with
 | nil=>rfl
 | cons a l ih=>rw[flatMap_cons,b7,ih];rfl
def C1(l:List (List Nat)):(l.flatMap (aH ah)).length=l.length:=by
 induction l with
 | nil=>rfl
 | cons a l ih=>rw[flatMap_cons,li,ih,i7];show 1+_=_;omega
open Go.Ev Go.RowKit
def qf(k:List Nat):List AV:=[.str k]
def za(ks:List (List Nat)):∀r∈ks.map qf,r.length=1:=by intro r hr;obtain⟨t,_,rfl⟩:=List.mem_map.1 hr;rfl
def gr(day fr:Int):Int:=if day<=fr then 0 else day-(if day-1000000000000<=fr then fr else day-1000000000000)
def qX(ks:List (List Nat)):Prop:=ks.Pairwise λa b=>gC b a=false
open Go.Shelf
def wY:Go.Shelf.Ren:=⟨λ| 6=>56 | 8=>127 | 9=>126 | 19=>212 | 20=>213 | 21=>203 | 22=>204 | 23=>205 | 24=>206 | 25=>207 | 26=>208 | 27=>209 | 28=>210 | 29=>211 | 36=>269 | 31=>270 | 32=>271 | 37=>272 | 38=>273 | 39=>159 | 41=>311 | n=>n,λ| 27=>66 | 29=>9 | 3=>3 | 32=>210 | 26=>66 | 0=>0 | 44=>281 | 46=>283 | 4=>4 | 36=>274 | 35=>273 | 41=>122 | 5=>5 | 9=>9 | 53=>318 | 57=>322 | 63=>344 | 64=>345 | n=>n,λ| n=>n⟩
def wq:Go.Proofs.SlLaysM.n6 prog wY:={
 mixed:=by kernel_rfl
 f6:=⟨Tryz.f56.name,by decide,func56.trans (rc some zW)⟩
 f8:=Tryz.func127.trans (rc some zW)
 f9:=⟨Tryz.f126.name,by decide,Tryz.func126.trans (rc some zW)⟩
 f19:=Tryz.func212.trans (rc some zW)
 f20:=Tryz.func213.trans (rc some zW)
 f21:=⟨Tryz.f203.name,by decide,Tryz.func203.trans (rc some zW)⟩
 f22:=⟨Tryz.f204.name,by decide,Tryz.func204.trans (rc some zW)⟩
 f23:=⟨Tryz.f205.name,by decide,Tryz.func205.trans (rc some zW)⟩
 f24:=⟨Tryz.f206.name,by decide,Tryz.func206.trans (rc some zW)⟩
 f25:=⟨Tryz.f207.name,by decide,Tryz.func207.trans (rc some zW)⟩
 f26:=⟨Tryz.f208.name,by decide,Tryz.func208.trans (rc some zW)⟩
 f27:=⟨Tryz.f209.name,by decide,Tryz.func209.trans (rc some zW)⟩
 f28:=⟨Tryz.f210.name,by decide,Tryz.func210.trans (rc some zW)⟩
 f29:=⟨Tryz.f211.name,by decide,Tryz.func211.trans (rc some zW)⟩
 f31:=Tryz.func270.trans (rc some zW)
 f32:=Tryz.func271.trans (rc some zW)
 f36:=⟨Tryz.f269.name,by decide,Tryz.func269.trans (rc some zW)⟩
 f37:=⟨Tryz.f272.name,by decide,Tryz.func272.trans (rc some zW)⟩
 f38:=⟨Tryz.f273.name,by decide,Tryz.func273.trans (rc some zW)⟩
 f39:=⟨Tryz.f159.name,by decide,func159.trans (rc some zW)⟩
 f41:=⟨Tryz.f311.name,by decide,Tryz.func311.trans (rc some zW)⟩
 t0:=Tryz.underlying0
 a0:=Tryz.isAgg0
 z0:=Tryz.sizeOf0
 v0:=Tryz.zeroValue0
 t3:=Tryz.underlying3
 a3:=Tryz.isAgg3
 z3:=Tryz.sizeOf3
 v3:=Tryz.zeroValue3
 t4:=Tryz.underlying4
 a4:=Tryz.isAgg4
 z4:=Tryz.sizeOf4
 v4:=Tryz.zeroValue4
 t5:=Tryz.underlying5
 a5:=Tryz.isAgg5
 z5:=Tryz.sizeOf5
 v5:=Tryz.zeroValue5
 t9:=d5
 a9:=isAgg9
 z9:=sizeOf9
 v9:=d8
 t26:=d3
 a26:=isAgg66
 z26:=es
 v26:=d6
 t27:=d3
 a27:=isAgg66
 z27:=es
 v27:=d6
 t29:=d5
 a29:=isAgg9
 z29:=sizeOf9
 v29:=d8
 t32:=Tryz.underlying210
 a32:=Tryz.isAgg210
 z32:=Tryz.sizeOf210
 v32:=Tryz.zeroValue210
 t35:=Tryz.underlying273
 a35:=Tryz.isAgg273
 z35:=Tryz.sizeOf273
 v35:=Tryz.zeroValue273
 t36:=Tryz.underlying274
 a36:=Tryz.isAgg274
 z36:=Tryz.sizeOf274
 v36:=Tryz.zeroValue274
 t41:=Tryz.underlying122
 a41:=Tryz.isAgg122
 z41:=Tryz.sizeOf122
 v41:=Tryz.zeroValue122
 t44:=Tryz.underlying281
 a44:=Tryz.isAgg281
 z44:=Tryz.sizeOf281
 v44:=Tryz.zeroValue281
 t46:=Tryz.underlying283
 a46:=Tryz.isAgg283
 z46:=Tryz.sizeOf283
 v46:=Tryz.zeroValue283
 t53:=Tryz.underlying318
 a53:=Tryz.isAgg318
 z53:=Tryz.sizeOf318
 v53:=Tryz.zeroValue318
 t57:=Tryz.underlying322
 a57:=Tryz.isAgg322
 z57:=Tryz.sizeOf322
 v57:=Tryz.zeroValue322
 t63:=Tryz.underlying344
 a63:=Tryz.isAgg344
 z63:=Tryz.sizeOf344
 v63:=Tryz.zeroValue344
 t64:=Tryz.underlying345
 a64:=Tryz.isAgg345
 z64:=Tryz.sizeOf345
 v64:=Tryz.zeroValue345 }
open Go.Ev Go.RowKit Go.Shelf Go.Lib Go.Sort
def C0(x y:List UInt8):decide (x<=y)=!gC (y.map (·.toNat)) (x.map (·.toNat)):=by
 rw[oK,bytesLess_eq];by_cases h:y<x
 ·have:¬x<=y:=λh2=>h2 h;simp[h,this]
 ·have:x<=y:=h;simp[h,this]
def Vm:Option Value->ByteArray
 | some (.string s)=>s
 | _=>ByteArray.empty
def Hn(ss:List (List UInt8)):List (List Nat):=ss.map λs=>s.map (·.toNat)
def wm(ks:List (List Nat))(v:AV)(Z:Nat)(h:Ev.H)(hout:Mq Z h v 1 (ks.map qf))(hlen:ks.length<=1000000):
 dZ prog (.func 56) [v] h (λr h'=>r=.cx []/\∃ks':List (List Nat),ks'.Perm ks/\qX ks'/\Mq Z h' v 1 (ks'.map qf)/\Over Z h h'/\∀id n e c,v=.slice (some (id,0)) n e c->h.store id 0 (ks'.map qf).flatten=some h'):=by
 intro σ w args' hv hr;obtain⟨x,rfl,hx⟩:=SY hv;rw[ec dz func56 ii]
 rcases hout.2 with⟨e,e2⟩ | ⟨id,bV,fx,fy,hne,e2,ho,hfx,hxy,z1,z2,z3,z4,l1,l2,l3,l4⟩
 ·subst e2
  have hts:ks=[]:=by simpa using e
  subst hts
  cases hx with
  | gV hl=>
   refine Calls.mono (AnyM.slices_Sort_string_none wq none 0 w) λe w' ⟨he,hw⟩=>?_;subst hw;exact⟨_,he,.cx [],h,⟨rfl,[],.refl _,List.Pairwise.nil,hout,Over.refl _ _,λ_ _ _ _ he=>by cases he⟩,σ,V.lK,hr,.refl _ _ _⟩
 ·subst e2
  have hpos:0<ks.length:=by
   cases ks with
   | nil=>exact un rfl hne
   | cons=>exact em _
  rw[am] at hx
  cases hx with
  | @slice _ _ _ _ _ a p c hs hl hrr hcc ha=>
  have ha:a=⟨p.b,p.d+0,none⟩:=ha.resolve_right i4;subst ha;obtain⟨q,carr,et,hq,hb,hsz,hlen',hVc⟩:=hr.cells ho;rw[hs] at hq;cases hq
  have hfl:(ks.map qf).flatten.length=ks.length*1:=by
   have:=jE (s:=1) hout.1;rw[am] at this;exact this
  have hpl:=hr.lt ho hs
  let d:List (List UInt8):=(range ks.length).map λi=>(Vm carr[p.d+i]?).data.toList
  have hdl0:d.length=ks.length:=by simp[d]
  have hspec:∀i,i<ks.length->∃s:ByteArray,carr[p.d+i]?=some (.string s)/\ks[i]?=some (s.data.toList.map (·.toNat))/\d[i]?=some s.data.toList:=λi hi=>by
   have hki:ks[i]?=some ks[i]:=jp hi
   have hg:(ks.map qf)[i]?=some (qf ks[i]):=by rw[a7,hki];rfl
   have h0:=pw hout.1 hg (k:=0) i4;obtain⟨v0,g0,V0⟩:=hVc _ _ (h0.trans (show(qf ks[i])[0]?=some (.str ks[i]) from rfl));rw[Nat.mul_one,c4] at g0;generalize hkk:ks[i]=kk at V0
   cases V0 with
   | @str _ s0 e0=>
    refine⟨s0,g0,by rw[hki,hkk,e0],?_⟩;show((range ks.length).map _)[i]?=_;rw[a7,List.getElem?_range hi,m6,g0];rfl
  have hH:Holds encStr w p.b (p.d+0) d.toArray:=by
   intro j hj
   have hj':j<ks.length:=by simpa [hdl0] using hj
   obtain⟨s,g1,g2,g3⟩:=hspec j hj';refine⟨?_,uZ hb⟩;rw[cell_of hb,c4,g1];rw[getElem!_pos d.toArray j hj]
   have:d.toArray[j]=s.data.toList:=by
    have h1:=jp (l:=d) (i:=j) i4;rw[g3] at h1;simpa using(Option.some.inj h1).symm
   rw[this]
  have hmain:=AnyM.slices_Sort_string wq p.b (p.d+0) c d w hH hpl (by rw[hdl0];omega);rw[hdl0] at hmain;change Calls prog 56 _ _ _ at hmain;refine Calls.mono hmain ?_;rintro e w' ⟨rfl,n,os,rfl⟩;obtain⟨d',hd'⟩:∃d',d'=d.mergeSort λx y=>decide (x<=y):=⟨_,rfl⟩;rw[<-hd']
  have hp3:d'.Perm d:=by rw[hd'];exact List.mergeSort_perm _ _
  have hp1:d'.length=ks.length:=by rw[hp3.length_eq,hdl0]
  have hsorted:d'.Pairwise λx y=>decide (x<=y)=true:=by
   rw[hd'];refine List.pairwise_mergeSort ?_ ?_ d
   ·intro a b c h1 h2;rw[C0] at *;simp only[bg] at *;cases h:gC (c.map (·.toNat)) (a.map (·.toNat))
    ·rfl
    ·rcases l7 (a.map (·.toNat)) (b.map (·.toNat)) with g | g | g
     ·have:=ij h g;rw[h2] at this;cases this
     ·rw[g,h2] at h;cases h
     ·rw[h1] at g;cases g
   ·intro a b;rw[C0,C0]
    rcases l7 (a.map (·.toNat)) (b.map (·.toNat)) with g | g | g
    ·rw[ry g];rfl
    ·rw[g,eG];rfl
    ·rw[ry g];simp
  have hdl:Hn d=ks:=by
   apply dv;intro i;unfold Hn;by_cases hi:i<ks.length
   ·obtain⟨s,g1,g2,g3⟩:=hspec i hi;rw[a7,g3,g2];rfl
   ·rw[bt (by simp[hdl0];omega),bt i4]
  have hperm:(Hn d').Perm ks:=by rw[<-hdl];exact hp3.map _
  have hsx:qX (Hn d'):=by
   unfold qX Hn;rw[List.pairwise_map];refine hsorted.imp ?_;intro a b h1;rw[C0] at h1;simpa using h1
  have hlen2:(Hn d').length=ks.length:=by unfold Hn;rw[am,hp1]
  have hw3:=za (Hn d')
  have hb1:(putRow encStr (Sort.ahead w n) p.b (p.d+0) d'.toArray).heap[p.b]?=some (.cells (putCells encStr (p.d+0) d'.toArray carr) et (0,0)):=by
   unfold putRow mapBlock;simp only[c5,if_true];rw[show(Sort.ahead w n).heap[p.b]?=some (.cells carr et (0,0)) from hb];rfl
  have hoth:∀b,b≠p.b->(putRow encStr (Sort.ahead w n) p.b (p.d+0) d'.toArray).heap[b]?=w.heap[b]?:=λb hbb=>by
   unfold putRow mapBlock;simp only[c5];rw[v6 (λe=>hbb e.symm)];rfl
  have hVn:∀(i:Nat) (a:AV),((Hn d').map qf).flatten[i]?=some a->∃v,(putCells encStr (p.d+0) d'.toArray carr)[p.d+i]?=some v/\V σ a v:=by
   intro i a hia
   have hil:i<ks.length:=by
    have:=NA hia;rw[jE hw3,am,hlen2] at this;omega
   have hj:i<d'.length:=by omega
   have hrow:((Hn d').map qf)[i]?=some (qf (d'[i].map (·.toNat))):=by
    unfold Hn;rw[a7,a7,jp hj];rfl
   have hat:=pw hw3 hrow (k:=0) i4;rw[Nat.mul_one,c4,hia] at hat
   have hcl:p.d+i<carr.size:=by omega
   have hput:(putCells encStr (p.d+0) d'.toArray carr)[p.d+i]?=some (encStr d'[i]):=by
    unfold putCells;rw[Array.getElem?_mapIdx,Array.getElem?_eq_getElem hcl,m6,ut ⟨by omega,by simp;omega⟩];rw[show p.d+i-(p.d+0)=i by omega,getElem!_pos d'.toArray i (by simpa using hj)];simp
   refine⟨_,hput,?_⟩;cases hat;exact .str rfl
  obtain⟨r1,r2⟩:=hr.rewrite ho hs (cs':=((Hn d').map qf).flatten) (by rw[jE hw3,am,hlen2,hfl]) hb hb1 (by unfold putCells;rw[Array.size_mapIdx]) hVn hoth (by unfold putRow mapBlock;simp[Sort.ahead]) rfl rfl rfl
  have hbel:Below (putRow encStr (Sort.ahead w n) p.b (p.d+0) d'.toArray).heap.size (putRow encStr (Sort.ahead w n) p.b (p.d+0) d'.toArray) (grow (putRow encStr (Sort.ahead w n) p.b (p.d+0) d'.toArray) os):=
   ⟨rfl,rfl,rfl,by rw[size_grow];omega,λk hk=>by unfold grow;simp only;rw[Array.getElem?_append_left hk]⟩
  have hkeep:=sq r1 hbel;obtain⟨ao1,ao2⟩:=sm (id:=id) hfx z2 z3 z4
  have hne':(Hn d').map qf≠[]:=by
   intro e;have:=rc List.length e;rw[am,hlen2] at this;simp at this;rw[this] at hpos;simp at hpos
  refine⟨_,rfl,.cx [],_,⟨rfl,Hn d',hperm,hsx,⟨hw3,.inr ⟨id,bV,id,id,hne',?_,?_,?_,.inl rfl,z1,z1,z1,z4,?_,?_,?_,?_⟩⟩,?_,?_⟩,σ,V.lK,hkeep.1,r2.trans hkeep.2⟩
  ·rw[am,am,hlen2]
  ·exact cZ _ _ _
  ·exact Bi hfx
  ·show id<(h.alone id bV).next;rw[ao2];exact l1
  ·show id<(h.alone id bV).next;rw[ao2];exact l1
  ·show id<(h.alone id bV).next;rw[ao2];exact l1
  ·show bV<(h.alone id bV).next;rw[ao2];exact l4
  ·refine ao1.trans ⟨aa _,λj hj=>bo _ _ i4,λ_ _=>rfl,λhl=>vk i4⟩
  ·intro id2 n2 e2 c2 he;cases he
   have hfl2:((Hn d').map qf).flatten.length=(ks.map qf).flatten.length:=by rw[jE hw3,am,hlen2,hfl]
   have hone:((Hn d').map qf).flatten.all jU=true:=by
    rw[all_eq_true];intro x hx;rw[List.mem_flatten] at hx;obtain⟨r,hr1,hr2⟩:=hx;obtain⟨k,_,rfl⟩:=mem_map.1 hr1;rw[t6 hr2];rfl
   unfold H.store;rw[ho];simp only;rw[hfl2,er,fc (aa _),hone,Bool.and_self,ak,take_zero,nil_append,aW (aa _),append_nil]
def wL(a b:List Nat):Bool:=!gC b a
def Li(a b c:List Nat)(h1:wL a b=true)(h2:wL b c=true):wL a c=true:=by
 unfold wL at *;simp only[bg] at *;cases h:gC c a
 ·rfl
 ·rcases l7 a b with g | g | g
  ·have:=ij h g;rw[h2] at this;cases this
  ·rw[g,h2] at h;cases h
  ·rw[h1] at g;cases g
def Lh(a b:List Nat):(wL a b||wL b a)=true:=by
 unfold wL
 rcases l7 a b with g | g | g
 ·rw[ry g];rfl
 ·rw[g,eG];rfl
 ·rw[ry g];simp
def Fw{a b:List Nat}(h1:wL a b=true)(h2:wL b a=true):a=b:=by
 unfold wL at h1 h2;simp only[bg] at h1 h2
 rcases l7 a b with g | g | g
 ·rw[h2] at g;cases g
 ·exact g
 ·rw[h1] at g;cases g
def Le(x:List Nat):List (List Nat)->List (List Nat)
 | []=>[x]
 | y::l=>cond (wL x y) (x::y::l) (y::Le x l)
def ee:List (List Nat)->List (List Nat)
 | []=>[]
 | x::l=>Le x (ee l)
def RW(x:List Nat):∀l,(Le x l).Perm (x::l)
 | []=>.refl _
 | y::l=>by
  rw[Le];cases wL x y
  ·exact((RW x l).cons y).trans (.swap x y l)
  ·exact .refl _
def r9:∀l,(ee l).Perm l
 | []=>.refl _
 | x::l=>(RW x _).trans ((r9 l).cons x)
def Tc(x:List Nat):∀l,l.Pairwise (λa b=>wL a b=true)->(Le x l).Pairwise λa b=>wL a b=true
 | [],_=>List.pairwise_singleton ..
 | y::l,h=>by
  obtain⟨h1,h2⟩:=List.pairwise_cons.1 h;rw[Le];cases g:wL x y
  ·refine List.pairwise_cons.2 ⟨λz hz=>?_,Tc x l h2⟩
   rcases t7 ((RW x l).mem_iff.1 hz) with rfl | hz
   ·have:=Lh z y;rw[g] at this;simpa using this
   ·exact h1 z hz
  ·refine List.pairwise_cons.2 ⟨λz hz=>?_,h⟩
   rcases t7 hz with rfl | hz
   ·exact g
   ·exact Li _ _ _ g (h1 z hz)
def Gl:∀l,(ee l).Pairwise λa b=>wL a b=true
 | []=>.nil
 | x::l=>Tc x _ (Gl l)
def zn{l ks:List (List Nat)}(hp:ks.Perm l)(hs:qX ks):ks=ee l:=by
 have h2:(ee l).Pairwise λa b=>wL a b=true:=Gl l
 have h1:ks.Pairwise λa b=>wL a b=true:=by
  unfold qX at hs;refine hs.imp ?_;intro a b h;unfold wL;rw[h];rfl
 have hq:ks.Perm (ee l):=hp.trans (r9 l).symm;exact Perm.eq_of_pairwise (λa b _ _ h1 h2=>Fw h1 h2) h1 h2 hq
def Kr(l:List (List Nat)):(l.map qf).flatten=l.map AV.str:=by
 induction l with
 | nil=>rfl
 | cons a l ih=>rw[bw,List.flatten_cons,ih];rfl
def yn:∀l:List (List Nat),iQ (l.flatMap (aH ah))=some (l.map AV.str)
 | []=>rfl
 | a::l=>by
  show iQ (ah a::l.flatMap (aH ah))=_;rw[iQ,cT,m7,yn l];rfl
def An(l:List (List Nat))(hlen:l.length<=1000000)(hne:l≠[]):SC prog 56 [.buf 0 l.length 1 none] [.cells (l.flatMap (aH ah))] [] (λr S'=>r=.cx []/\S'=[.cells ((ee l).flatMap (aH ah))]):=by
 have hl2:(ee l).length=l.length:=(r9 l).length_eq;refine SC.row (by rw[C1,C1,hl2]) (λθ ρ xs hx=>mf hx (N2 _)) ?_;intro E θ ρ h avs asx bV hl hR hA ho hV ⟨⟨x,y⟩,hf,hxy,b1,b2,b3,b4⟩;have has:=ox hV (yn l);subst has;rw[aN] at hA;obtain⟨a,r,rfl,hA1,hA2⟩:=hA;rw[bj] at hA2;subst hA2;rw[VS] at hA1;subst hA1
 have hout:Mq 0 h (.slice (some ((θ 0).id,0)) l.length 1 none) 1 (l.map qf):=by
  refine⟨za l,.inr ⟨(θ 0).id,bV,x,y,by simpa using hne,by rw[am],by rw[Kr];exact ho,hf,hxy,bs _,bs _,bs _,bs _,b4,b1,b2,b3⟩⟩
 refine(wm l _ 0 h hout hlen).mono ?_;rintro v h' ⟨rfl,ks',hp,hs,_,_,hst⟩;have:=zn hp hs;subst this;refine⟨by rw[VS];exact⟨[],rfl,by rw[bj]⟩,_,?_,hst _ _ _ _ rfl⟩;rw[Kr];exact tx (yn _)
def rT(l:List (List Nat)):List (List Nat):=l.foldl (λacc x=>if acc.getLast?=some x then acc else acc++[x]) []
def HI(l:List (List Nat))(x:List Nat):rT (l++[x])=if (rT l).getLast?=some x then rT l else rT l++[x]:=by
 unfold rT;rw[co];rfl
variable{α:Type}{l:List α}{i:Nat}
def cM{x:α}(h:l[i]?=some x):l.take (i+1)=l.take i++[x]:=by
 rw[d0,h];rfl
def cr(o e n:Nat):SV:=if n=0 then aR else .buf o n e none
def O6(o:Nat)(l:List α)(enc:α->List SV):List SO:=if l=[] then [] else be o .gone++[.cells (l.flatMap enc)]
def lD(o e:Nat):cr o e 0=aR:=rfl
def R6(o e n:Nat):cr o e (n+1)=.buf o (n+1) e none:=rfl
variable{o:Nat}
def eo{e n:Nat}(h:¬n=0):cr o e n=.buf o n e none:=v6 h
def P8{α:Type}(o:Nat)(enc:α->List SV):O6 o [] enc=[]:=rfl
variable{enc:α->List SV}
def NT(h:¬l=[]):O6 o l enc=be o .gone++[.cells (l.flatMap enc)]:=v6 h
def NU(o:Nat)(l:List α)(x:α)(enc:α->List SV):O6 o (l++[x]) enc=be o .gone++[.cells ((l++[x]).flatMap enc)]:=v6 ge
def aU{α:Type}{enc:α->List SV}{e:Nat}(he:∀x,(enc x).length=e):∀l:List α,(l.flatMap enc).length=l.length*e
 | []=>by simp
 | a::l=>by rw[flatMap_cons,li,he,aU he l,i7,cl,c0]
def ek{e:Nat}(he:∀x,(enc x).length=e)(l:List α):(l.flatMap enc).take (l.length*e)=l.flatMap enc:=
 aj (by rw[aU he];exact aa _)
def mg{e:Nat}(he:∀x,(enc x).length=e)(hg:∀x,bR (enc x)=true)(o:Nat)(l:List α)(x:α):((l.flatMap enc).take (l.length*e)++enc x).map (aM o)=(l++[x]).flatMap enc:=by
 rw[ek he,b8,bQ (hg x),bQ (aE hg l),bc];simp
def bx(hg:∀x,bR (enc x)=true)(o:Nat)(l:List α):(l.flatMap enc).map (aM o)=l.flatMap enc:=bQ (aE hg l)
def QU{e:Nat}(he:∀x,(enc x).length=e)(hg:∀x,bR (enc x)=true)(l:List α):Wk (O6 o l enc) (cr o e l.length) (an e l enc):=by
 by_cases h:l=[]
 ·subst h;exact Wk.nil _
 ·have h0:¬l.length=0:=λe=>h (t8 e);rw[eo h0,NT h];refine Wk.buf (cs:=l.flatMap enc) ?_ ?_ ?_
  ·rw[List.getElem?_append_right (by rw[bv];exact aa _),bv,d2];rfl
  ·rw[ek he];exact cu.refl (aE hg l)
  ·rw[aU he];exact aa _
def uB:PC prog 56 [aR] (·=.a (.cx [])):=by
 intro ρ h avs _ hA;rw[dO] at hA;obtain⟨a,r,rfl,hA1,hA2⟩:=hA;rw[eU] at hA2;subst hA2;rw[GS] at hA1;subst hA1;refine(wm [] _ h.next h ⟨by simp,.inl ⟨rfl,rfl⟩⟩ ge).mono ?_;rintro v h' ⟨rfl,_,_,_,_,ho,_⟩;exact⟨_,ρ,rfl,ho,λid ob hi=>.inl hi,by rw[GS]⟩
def LM(l:List (List Nat)):List (List Nat):=rT (ee l)
def cK(e:bB):(ar e).length=14:=rfl
def dw(e:bB):ar e=[ab e.op,ab e.day,ah e.part,ah e.kind,ah e.br,ah e.slot,ah e.key,ah e.value,ab e.u1,ab e.u2,ab e.u3,ab e.u4,ab e.u5,ab e.u6]:=rfl
def bU(e:bB):bR (ar e)=true:=rfl
section
variable {α:Type} {c:α->SV}
def rC(l:List α):l.flatMap (aH c)=l.map c:=by
 induction l with
 | nil=>rfl
 | cons a l ih=>rw[flatMap_cons,ih];rfl
def Sb{l:List α}{x:α}(h:l[i]?=some x):(l.flatMap (aH c))[i]?=some (c x):=by
 rw[rC,a7,h];rfl
def Qn(l:List α):(l.flatMap (aH c)).length=l.length:=by rw[rC,List.length_map]
def N1{l:List α}(y:α)(h:i<l.length):(l.flatMap (aH c)).take i++(c y::(l.flatMap (aH c)).drop (i+1))=(l.set i y).flatMap (aH c):=by
 rw[rC,rC,List.map_set,bd,ut (by rw[am];exact h)]
end
abbrev qD(n:Nat):SV:=ab (n:Int)
def q8(a0 a1 d:Int):Int:=gl (qt a0 d) (qt a1 d)
def q7(a0 a1 d:Int):Int:=eH (qt a0 d) (qt a1 d)
def vX(a0 a1 lo hi:Int)(h:lo<=hi):SC prog 355 [ab lo,ab hi,.ptr 0 0,.ptr 1 0] [.cells [ab a0,ab a1],.cells [aR]] []
 (λr S'=>r=.cx []/\S'=[.cells [ab a0,ab a1],.cells [.buf 4 2 2 none],.gone,.gone,.cells [ab (q8 a0 a1 lo),ab (q7 a0 a1 lo),ab (q8 a0 a1 hi),ab (q7 a0 a1 hi)]]):=by
 refine Rt 40 dl ?_;refine(aD (show decide (lo<=hi)=true by simpa using h)) ?_
 (repeat refine aG.seq ?_)
 refine aG.yes rfl ?_;refine(zV) ?_
 (repeat refine aG.seq ?_)
 refine aG.block (aG.loop (λm st=>
  (m=2/\st=⟨[(2,.ptr 0 0),(3,.ptr 1 0),(15,.buf 2 2 1 (some 2)),(16,ab 2),(17,ab 0),(1000000,.ptr 0 0),(1000001,.ptr 1 0)],40,[.cells [ab a0,ab a1],.cells [aR],.cells [ab lo,ab hi]],[]⟩)\/
  (m=1/\st=⟨[(2,.ptr 0 0),(3,.ptr 1 0),(15,.buf 2 2 1 (some 2)),(16,ab 2),(17,ab 1),(1000000,.ptr 0 0),(1000001,.ptr 1 0)],40,[.cells [ab a0,ab a1],.cells [.buf 4 1 2 none],.cells [ab lo,ab hi],.gone,.cells [ab (q8 a0 a1 lo),ab (q7 a0 a1 lo)]],[]⟩)\/
  (m=0/\st=⟨[(2,.ptr 0 0),(3,.ptr 1 0),(15,.buf 2 2 1 (some 2)),(16,ab 2),(17,ab 2),(1000000,.ptr 0 0),(1000001,.ptr 1 0)],40,[.cells [ab a0,ab a1],.cells [.buf 4 2 2 none],.cells [ab lo,ab hi],.gone,.cells [ab (q8 a0 a1 lo),ab (q7 a0 a1 lo),ab (q8 a0 a1 hi),ab (q7 a0 a1 hi)]],[]⟩)) 2 zH (.inl ⟨rfl,rfl⟩) (by rintro m st (⟨_,rfl⟩ | ⟨_,rfl⟩ | ⟨_,rfl⟩)<;>rfl) ?_)
 rintro m st (⟨rfl,rfl⟩ | ⟨rfl,rfl⟩ | ⟨rfl,rfl⟩)
 ·refine(w6)<|(zB)<|(zV)<|(zs) ?_;refine nh [0,1,0,7,0,16,0,127,255,511] ?_;refine(zD)<|(xJ (gW a0 lo))<|(zD)<|(xJ (gW a1 lo))<|(zD)<|(zM)<|(aD (bu @je @fk))<|(zV) ?_;exact⟨1,_,by omega,(cf (bu @q8.eq_1 @q7.eq_1)),.inr (.inl ⟨rfl,rfl⟩)⟩
 ·refine(w6)<|(zB)<|(zV)<|(zs) ?_;refine nh [0,1,0,7,0,16,0,127,255,511] ?_;refine(zD)<|(xJ (gW a0 hi))<|(zD)<|(xJ (gW a1 hi))<|(zD)<|(zM)<|(aD (bu @je @fk))<|(zV) ?_;exact⟨0,_,by omega,(cf (bu @q8.eq_1 @q7.eq_1)),.inr (.inr ⟨rfl,rfl⟩)⟩
 ·refine(El)<|zA [(1000000,.ptr 0 0),(1000001,.ptr 1 0)] [.cells [ab a0,ab a1],.cells [.buf 4 2 2 none],.gone,.gone,.cells [ab (q8 a0 a1 lo),ab (q7 a0 a1 lo),ab (q8 a0 a1 hi),ab (q7 a0 a1 hi)]] zH ?_;refine aG.exit ?_
  simp only[eN,c8,bW,bK,if_true];exact zP []
def Gw(a0 a1 lo hi:Int)(h:¬lo<=hi):SC prog 355 [ab lo,ab hi,.ptr 0 0,.ptr 1 0] [.cells [ab a0,ab a1],.cells [aR]] []
 (λr S'=>r=.cx []/\S'=[.cells [ab a0,ab a1],.cells [aR]]):=by
 refine Rt 40 dl ?_;refine(aD (show decide (lo<=hi)=false by simpa using h)) ?_
 (repeat refine aG.seq ?_)
 refine aG.no rfl ?_;refine aG.skip ?_
 (try simp only[eN,c8,bW,bK])
 exact zP []
def qM(a0 a1 lo hi:Int)(n:Nat)(cs:List SV)(h:¬lo<=hi):SC prog 355 [ab lo,ab hi,.ptr 0 0,.ptr 1 0] [.cells [ab a0,ab a1],.cells [.buf 2 n 2 none],.cells cs] []
 (λr S'=>r=.cx []/\S'=[.cells [ab a0,ab a1],.cells [.buf 2 n 2 none],.cells cs]):=by
 refine TZ 40 dl ?_;refine(aD (show decide (lo<=hi)=false by simpa using h)) ?_
 (repeat refine aG.seq ?_)
 refine aG.no rfl ?_;refine aG.skip ?_
 (try simp only[eN,c8,bW,bK])
 exact zP []
def cS(p:Int×Int):List SV:=[ab p.1,ab p.2]
def q9(p:Int×Int):(cS p).length=2:=rfl
def mn(p:Int×Int):bR (cS p)=true:=rfl
def vW(a0 a1 lo hi:Int)(rows:List (Int×Int))(hlen:rows.length<=1000)(h:lo<=hi):SC prog 355 [ab lo,ab hi,.ptr 0 0,.ptr 1 0] [.cells [ab a0,ab a1],.cells [.buf 2 rows.length 2 none],.cells (rows.flatMap cS)] [2]
 (λr S'=>r=.cx []/\S'=[.cells [ab a0,ab a1],.cells [.buf 2 (rows.length+1+1) 2 none],.cells ((rows++[(q8 a0 a1 lo,q7 a0 a1 lo)]++[(q8 a0 a1 hi,q7 a0 a1 hi)]).flatMap cS)]):=by
 refine TZ 40 dl ?_;have step:∀(l:List (Int×Int)) (x y:Int),((l.flatMap cS).take (l.length*2)++[ab x,ab y]).map (aM 2)=(l++[(x,y)]).flatMap cS:=λl x y=>mg q9 mn 2 l (x,y);have hcl:∀l:List (Int×Int),(l.flatMap cS).length=l.length*2:=aU q9;have hkc:∀(o:Nat) (l:List (Int×Int)),(l.flatMap cS).map (aM o)=l.flatMap cS:=λo l=>bx mn o l;refine(aD (show decide (lo<=hi)=true by simpa using h)) ?_
 (repeat refine aG.seq ?_)
 refine aG.yes rfl ?_;refine(aD hkc) ?_
 (repeat refine aG.seq ?_)
 refine aG.block (aG.loop (λm st=>∃q:List (Int×Int),
  (m=2/\q=rows/\st=⟨[(2,.ptr 0 0),(3,.ptr 1 0),(15,.buf 3 2 1 (some 2)),(16,ab 2),(17,ab 0),(1000000,.ptr 0 0),(1000001,.ptr 1 0)],40,[.cells [ab a0,ab a1],.cells [.buf 2 q.length 2 none],.cells (q.flatMap cS),.cells [ab lo,ab hi]],[]⟩)\/
  (m=1/\q=rows++[(q8 a0 a1 lo,q7 a0 a1 lo)]/\st=⟨[(2,.ptr 0 0),(3,.ptr 1 0),(15,.buf 3 2 1 (some 2)),(16,ab 2),(17,ab 1),(1000000,.ptr 0 0),(1000001,.ptr 1 0)],40,[.cells [ab a0,ab a1],.cells [.buf 2 q.length 2 none],.cells (q.flatMap cS),.cells [ab lo,ab hi]],[]⟩)\/
  (m=0/\q=rows++[(q8 a0 a1 lo,q7 a0 a1 lo)]++[(q8 a0 a1 hi,q7 a0 a1 hi)]/\st=⟨[(2,.ptr 0 0),(3,.ptr 1 0),(15,.buf 3 2 1 (some 2)),(16,ab 2),(17,ab 2),(1000000,.ptr 0 0),(1000001,.ptr 1 0)],40,[.cells [ab a0,ab a1],.cells [.buf 2 q.length 2 none],.cells (q.flatMap cS),.cells [ab lo,ab hi]],[]⟩)) 2 zH ⟨rows,.inl ⟨rfl,rfl,rfl⟩⟩ (by rintro m st ⟨q,⟨_,_,rfl⟩ | ⟨_,_,rfl⟩ | ⟨_,_,rfl⟩⟩<;>rfl) ?_)
 rintro m st ⟨q,⟨rfl,hq,rfl⟩ | ⟨rfl,hq,rfl⟩ | ⟨rfl,hq,rfl⟩⟩
 ·have hql:q.length<=1000000:=by rw[hq];omega
  refine(w6)<|(zB)<|(zV)<|(zs) ?_;refine nh [0,1,0,7,0,16,0,127,255,511] ?_;refine(zD)<|(xJ (gW a0 lo))<|(zD)<|(xJ (gW a1 lo))<|(zD)<|(zM)<|(aD (Hm @je @fk hkc hcl step hql @aa))<|(zV) ?_;refine⟨1,_,by omega,(cf (uP @q8.eq_1 @q7.eq_1 hq @li.{0} @i7.{0} @i5.{0})),q++[(q8 a0 a1 lo,q7 a0 a1 lo)],.inr (.inl ⟨rfl,by rw[hq],rfl⟩)⟩
 ·have hql:q.length<=1000000:=by rw[hq,li];simp only[i7,i5];omega
  refine(w6)<|(zB)<|(zV)<|(zs) ?_;refine nh [0,1,0,7,0,16,0,127,255,511] ?_;refine(zD)<|(xJ (gW a0 hi))<|(zD)<|(xJ (gW a1 hi))<|(zD)<|(zM)<|(aD (Hm @je @fk hkc hcl step hql @aa))<|(zV) ?_;refine⟨0,_,by omega,(cf (uP @q8.eq_1 @q7.eq_1 hq @li.{0} @i7.{0} @i5.{0})),q++[(q8 a0 a1 hi,q7 a0 a1 hi)],.inr (.inr ⟨rfl,by rw[hq],rfl⟩)⟩
 ·refine(El) ?_;rw[show q.length=rows.length+1+1 by rw[hq];simp];refine zA [(1000000,.ptr 0 0),(1000001,.ptr 1 0)] [.cells [ab a0,ab a1],.cells [.buf 2 (rows.length+1+1) 2 none],.cells (q.flatMap cS)] zH ?_;refine aG.exit ?_;simp only[eN,c8,bW,bK,if_true];exact zP [] (hq:=by (try simp only[eC,bJ]);first | done | (rw[hq];first | exact⟨rfl,rfl⟩ | exact⟨trivial,rfl⟩ | exact⟨rfl,trivial⟩ | exact⟨trivial,trivial⟩))
def cV(a0 a1 lo hi:Int):List (Int×Int):=if lo<=hi then [(q8 a0 a1 lo,q7 a0 a1 lo)]++[(q8 a0 a1 hi,q7 a0 a1 hi)] else []
def lR(a0 a1 b0 b1:Int):List (Int×Int):=(if b0<=0/\0<=b1 then [(0,0)] else [])++cV a0 a1 (eH b0 1) b1++cV a0 a1 b0 (gl b1 (-1))
def iR(x y:Int×Int):Int×Int:=lX x.1 x.2 y.1 y.2
def jC(a0 a1 b0 b1:Int):Int×Int:=(lR a0 a1 b0 b1).foldl iR ((lR a0 a1 b0 b1).headD (0,0))
def uY{f:α->α->α}{x a:α}(h:l[i]?=some x):(l.take (i+1)).foldl f a=f ((l.take i).foldl f a) x:=by
 rw[d0,h,Option.toList_some,co];rfl
def Gx(a0 a1 b0 b1:Int)(hb:b0<=b1):PC prog 351 [kW a0 a1,kW b0 b1] (·=oi (jC a0 a1 b0 b1)):=by
 refine pB 51 Tryz.func351 ?_;have hkc:∀(o:Nat) (l:List (Int×Int)),(l.flatMap cS).map (aM o)=l.flatMap cS:=λo l=>bx mn o l;have hrc:∀(g:Nat->Nat) (l:List (Int×Int)),mP g (l.flatMap cS)=l.flatMap cS:=λg l=>bp (aE mn l);have hbc:∀(B:Nat) (l:List (Int×Int)),iI B (l.flatMap cS)=true:=λB l=>bO (aE mn l);have hcl:∀l:List (Int×Int),(l.flatMap cS).length=l.length*2:=aU q9
 refine(aD @kW.eq_1)<|(zV) ?_
 by_cases hz:b0<=0/\0<=b1
 ·refine(aD (bu (show decide (b0<=0)=true by simpa using hz.1) (show decide (0<=b1)=true by simpa using hz.2)))<|(cI)<|(zV) ?_
  have hm1:eH b0 1=1:=by unfold eH;split<;>omega
  have d1:lR a0 a1 b0 b1=([(0,0)]++cV a0 a1 1 b1)++cV a0 a1 b0 (gl b1 (-1)):=by rw[lR,ut hz,hm1]
  (repeat refine aG.seq ?_)
  refine aG.mono (Q:=λe st=>e=.normal/\Fg st ⟨[(3,.ptr 1 0),(4,.ptr 2 0),(5,.ptr 3 0),(6,.fn 355 [] [.ptr 0 0,.ptr 3 0])],51,[.cells [ab a0,ab a1],.cells [ab b0,ab b1],.cells [ab 0,ab 0],.cells [.buf 5 ([(0,0)]++cV a0 a1 1 b1).length 2 none],.gone,.cells (([(0,0)]++cV a0 a1 1 b1).flatMap cS)],[]⟩) ?_ ?_
  ·by_cases h1:(1:Int)<=b1
   ·refine(e9 (bu @fk hm1)) ?_;have hd:=vW a0 a1 1 b1 [(0,0)] g9 h1;rw[show[((0:Int),(0:Int))].flatMap cS=[ab 0,ab 0] from rfl,show[((0:Int),(0:Int))].length=1 from rfl] at hd;refine zS [0,3,5] (cJ hrc hbc hkc) hd ?_;refine(zR) ?_;refine⟨rfl,(Fg.less (by (simp only[cL,bI,fF,↓reduceIte,a8,cV,ut h1,li,i7,i5,a6])<;>(repeat' apply bk)<;>first | rfl | trivial) (by (simp only[cL,bI,or_true,true_or,cV,ut h1,li,i7,i5,a6])<;>(repeat' apply bk)<;>first | exact .inr rfl | exact .inl rfl | trivial))⟩
   ·refine(e9 (bu @fk hm1)) ?_;have hd:=qM a0 a1 1 b1 1 [ab 0,ab 0] h1;refine zS [0,3,5] (cJ hrc hbc hkc) hd ?_;refine(zR) ?_;refine⟨rfl,(Fg.less (by (simp only[cL,bI,fF,↓reduceIte,a8,cV,v6 h1,append_nil,i7,i5,flatMap_cons,flatMap_nil,cS])<;>(repeat' apply bk)<;>first | rfl | trivial) (by (simp only[cL,bI,or_true,true_or,cV,v6 h1,append_nil,i7,i5,flatMap_cons,flatMap_nil,cS])<;>(repeat' apply bk)<;>first | exact .inr rfl | exact .inl rfl | trivial))⟩
  rintro e st ⟨rfl,hfg⟩;refine aG.fg hfg ?_;clear hfg
  (try change aG _ _ _ _ _)
  have hq1:([(0,0)]++cV a0 a1 1 b1).length<=1000:=by
   unfold cV;split<;>simp
  (repeat refine aG.seq ?_)
  refine aG.mono (Q:=λe st=>e=.normal/\Fg st ⟨[(3,.ptr 1 0),(4,.ptr 2 0),(5,.ptr 3 0),(6,.fn 355 [] [.ptr 0 0,.ptr 3 0])],51,[.cells [ab a0,ab a1],.cells [ab b0,ab b1],.cells [ab 0,ab 0],.cells [.buf 5 (([(0,0)]++cV a0 a1 1 b1)++cV a0 a1 b0 (gl b1 (-1))).length 2 none],.gone,.cells ((([(0,0)]++cV a0 a1 1 b1)++cV a0 a1 b0 (gl b1 (-1))).flatMap cS)],[]⟩) ?_ ?_
  ·generalize ([(0,0)]++cV a0 a1 1 b1)=q1 at hq1;by_cases h2:b0<=gl b1 (-1)
   ·refine(e9 @je) ?_;have hd:=vW a0 a1 b0 (gl b1 (-1)) q1 hq1 h2;refine zS [0,3,5] (cJ hrc hbc hkc) hd ?_;refine(zR) ?_;refine⟨rfl,(Fg.less (by (simp only[cL,bI,fF,↓reduceIte,a8,cV,ut h2,li,i7,i5,a6])<;>(repeat' apply bk)<;>first | rfl | trivial) (by (simp only[cL,bI,or_true,true_or,cV,ut h2,li,i7,i5,a6])<;>(repeat' apply bk)<;>first | exact .inr rfl | exact .inl rfl | trivial))⟩
   ·refine(e9 @je) ?_;have hd:=qM a0 a1 b0 (gl b1 (-1)) q1.length (q1.flatMap cS) h2;refine zS [0,3,5] (cJ hrc hbc hkc) hd ?_;refine(zR) ?_;refine⟨rfl,(Fg.less (by (simp only[cL,bI,fF,↓reduceIte,a8,cV,v6 h2,append_nil])<;>(repeat' apply bk)<;>first | rfl | trivial) (by (simp only[cL,bI,or_true,true_or,cV,v6 h2,append_nil])<;>(repeat' apply bk)<;>first | exact .inr rfl | exact .inl rfl | trivial))⟩
  rintro e st ⟨rfl,hfg⟩;refine aG.fg hfg ?_;clear hfg
  (try change aG _ _ _ _ _)
  obtain⟨rows,hrows⟩:∃rows,rows=(([(0,0)]++cV a0 a1 1 b1)++cV a0 a1 b0 (gl b1 (-1))):=⟨_,rfl⟩
  have hne:rows≠[]:=by rw[hrows];simp
  obtain⟨x0,hr0⟩:∃x0,rows[0]?=some x0:=by
   cases h:rows with
   | nil=>exact un h hne
   | cons x r=>exact⟨x,rfl⟩
  have h0r:0<rows.length:=bq hr0
  have hlen:rows.length<=1000000:=by rw[hrows];(unfold cV;split<;>split<;>simp)
  have hD:jC a0 a1 b0 b1=rows.foldl iR x0:=by rw[jC,d1,<-hrows,show rows.headD (0,0)=x0 by cases rows with | nil=>exact un rfl hne | cons x r=>simpa using hr0]
  have ht2:(rows.flatMap cS).take 2=[ab x0.1,ab x0.2]:=by
   have:=aQ (e:=2) (enc:=cS) gc hr0
   rwa [bi,ch] at this
  rw[<-hrows];clear hrows
  refine(aD (Hm (show di (.int .i64 0)=some 0 from rfl) @bi h0r hkc hcl ht2 (show 2<=rows.length*2 by omega)))<|(zV)<|(zs) ?_;refine zL rows (λk=>True) (λk=>[(4,.ptr 2 0),(7,.ptr 6 0),(40,.buf 5 rows.length 2 none),(41,ab rows.length),(42,ab k)]) (λk=>[.gone,.gone,.cells [ab 0,ab 0],.gone,.gone,.cells (rows.flatMap cS),.cells [ab ((rows.take k).foldl iR x0).1,ab ((rows.take k).foldl iR x0).2]]) (cf (cJ @take_zero.{0} @foldl_nil.{0,0} hkc)) zp ?_;intro k hk hall;refine zT rows k ?_ ?_;rintro rfl;rotate_left;intro x hx hlt;rotate_left
  ·refine(gg) ?_;rw[bb]
   exact(zV)<|zo [.cell 4 52] (hq:=by rw[hD,oi,kW])
  have hst:=uY (f:=iR) (a:=x0) hx;obtain⟨p,q,hpq⟩:∃p q,(rows.take k).foldl iR x0=(p,q):=⟨_,_,rfl⟩;rw[hpq] at hst ⊢
  refine(gA)<|(aD (uP hlt (aQ (e:=2) (enc:=cS) gc hx) @cS.eq_1 hcl (show k*2+2<=rows.length*2 by omega) hkc))<|(zC)<|(zK (nK p q x.1 x.2))<|(cP (bu @oi.eq_1 @kW.eq_1))<|(aD (zi hlt hlen)) ?_;refine zX hlt (cf (cJ hst @iR.eq_1 hkc)) trivial
 by_cases hp:1<=b0
 ·refine(aD (show decide (b0<=0)=false by simp;omega))<|(lj) ?_
  have hm1:eH b0 1=b0:=by unfold eH;split<;>omega
  have hm2:gl b1 (-1) = -1:=by unfold gl;split<;>omega
  have d1:lR a0 a1 b0 b1=[(q8 a0 a1 b0,q7 a0 a1 b0),(q8 a0 a1 b1,q7 a0 a1 b1)]:=by rw[lR,v6 hz,hm1,hm2,cV,ut hb,cV,v6 i4];rfl
  refine(e9 (bu @fk hm1)) ?_;have hd:=vX a0 a1 b0 b1 hb
  refine zS [0,3] (cJ hrc hbc hkc) hd ?_;refine(zR)<|(e9 (bu @je hm2)) ?_
  have hd2:=qM a0 a1 b0 (-1) 2 [ab (q8 a0 a1 b0),ab (q7 a0 a1 b0),ab (q8 a0 a1 b1),ab (q7 a0 a1 b1)] i4;refine zS [0,3,6] (cJ hrc hbc hkc) hd2 ?_;refine(zR) ?_;obtain⟨rows,hrows⟩:∃rows,rows=[(q8 a0 a1 b0,q7 a0 a1 b0),(q8 a0 a1 b1,q7 a0 a1 b1)]:=⟨_,rfl⟩
  have hne:rows≠[]:=by rw[hrows];simp
  obtain⟨x0,hr0⟩:∃x0,rows[0]?=some x0:=by
   cases h:rows with
   | nil=>exact un h hne
   | cons x r=>exact⟨x,rfl⟩
  have h0r:0<rows.length:=bq hr0
  have hlen:rows.length<=1000000:=by rw[hrows];simp
  have hD:jC a0 a1 b0 b1=rows.foldl iR x0:=by rw[jC,d1,<-hrows,show rows.headD (0,0)=x0 by cases rows with | nil=>exact un rfl hne | cons x r=>simpa using hr0]
  have ht2:(rows.flatMap cS).take 2=[ab x0.1,ab x0.2]:=by
   have:=aQ (e:=2) (enc:=cS) gc hr0
   rwa [bi,ch] at this
  rw[show([ab (q8 a0 a1 b0),ab (q7 a0 a1 b0),ab (q8 a0 a1 b1),ab (q7 a0 a1 b1)]:List SV)=rows.flatMap cS by rw[hrows];rfl,show(SV.buf 6 2 2 none)=.buf 6 rows.length 2 none by rw[hrows];rfl];clear hrows
  refine(aD (Hm (show di (.int .i64 0)=some 0 from rfl) @bi h0r hkc hcl ht2 (show 2<=rows.length*2 by omega)))<|(zV)<|(zs) ?_;refine zL rows (λk=>True) (λk=>[(4,.ptr 2 0),(7,.ptr 7 0),(40,.buf 6 rows.length 2 none),(41,ab rows.length),(42,ab k)]) (λk=>[.gone,.gone,.cells [ab 0,ab 0],.gone,.gone,.gone,.cells (rows.flatMap cS),.cells [ab ((rows.take k).foldl iR x0).1,ab ((rows.take k).foldl iR x0).2]]) (cf (cJ @take_zero.{0} @foldl_nil.{0,0} hkc)) zp ?_;intro k hk hall;refine zT rows k ?_ ?_;rintro rfl;rotate_left;intro x hx hlt;rotate_left
  ·refine(gg) ?_;rw[bb]
   exact(zV)<|zo [.cell 4 52] (hq:=by rw[hD,oi,kW])
  have hst:=uY (f:=iR) (a:=x0) hx;obtain⟨p,q,hpq⟩:∃p q,(rows.take k).foldl iR x0=(p,q):=⟨_,_,rfl⟩;rw[hpq] at hst ⊢
  refine(gA)<|(aD (uP hlt (aQ (e:=2) (enc:=cS) gc hx) @cS.eq_1 hcl (show k*2+2<=rows.length*2 by omega) hkc))<|(zC)<|(zK (nK p q x.1 x.2))<|(cP (bu @oi.eq_1 @kW.eq_1))<|(aD (zi hlt hlen)) ?_;refine zX hlt (cf (cJ hst @iR.eq_1 hkc)) trivial
 ·have hn:b1 <= -1:=by omega
  by_cases hq0:b0<=0;rotate_left
  ·omega
  refine(aD (bu (show decide (b0<=0)=true by simpa using hq0) (show decide (0<=b1)=false by simp;omega)))<|(lj) ?_
  have hm1:eH b0 1=1:=by unfold eH;split<;>omega
  have hm2:gl b1 (-1)=b1:=by unfold gl;split<;>omega
  have d1:lR a0 a1 b0 b1=[(q8 a0 a1 b0,q7 a0 a1 b0),(q8 a0 a1 b1,q7 a0 a1 b1)]:=by rw[lR,v6 hz,hm1,hm2,cV,v6 i4,cV,ut hb];rfl
  refine(e9 (bu @fk hm1)) ?_;have hd:=Gw a0 a1 1 b1 i4
  refine zS [0,3] (cJ hrc hbc hkc) hd ?_;refine(zR)<|(e9 (bu @je hm2)) ?_
  have hd2:=vX a0 a1 b0 b1 hb;refine zS [0,3] (cJ hrc hbc hkc) hd2 ?_;refine(zR) ?_;obtain⟨rows,hrows⟩:∃rows,rows=[(q8 a0 a1 b0,q7 a0 a1 b0),(q8 a0 a1 b1,q7 a0 a1 b1)]:=⟨_,rfl⟩
  have hne:rows≠[]:=by rw[hrows];simp
  obtain⟨x0,hr0⟩:∃x0,rows[0]?=some x0:=by
   cases h:rows with
   | nil=>exact un h hne
   | cons x r=>exact⟨x,rfl⟩
  have h0r:0<rows.length:=bq hr0
  have hlen:rows.length<=1000000:=by rw[hrows];simp
  have hD:jC a0 a1 b0 b1=rows.foldl iR x0:=by rw[jC,d1,<-hrows,show rows.headD (0,0)=x0 by cases rows with | nil=>exact un rfl hne | cons x r=>simpa using hr0]
  have ht2:(rows.flatMap cS).take 2=[ab x0.1,ab x0.2]:=by
   have:=aQ (e:=2) (enc:=cS) gc hr0
   rwa [bi,ch] at this
  rw[show([ab (q8 a0 a1 b0),ab (q7 a0 a1 b0),ab (q8 a0 a1 b1),ab (q7 a0 a1 b1)]:List SV)=rows.flatMap cS by rw[hrows];rfl,show(SV.buf 6 2 2 none)=.buf 6 rows.length 2 none by rw[hrows];rfl];clear hrows
  refine(aD (Hm (show di (.int .i64 0)=some 0 from rfl) @bi h0r hkc hcl ht2 (show 2<=rows.length*2 by omega)))<|(zV)<|(zs) ?_;refine zL rows (λk=>True) (λk=>[(4,.ptr 2 0),(7,.ptr 7 0),(40,.buf 6 rows.length 2 none),(41,ab rows.length),(42,ab k)]) (λk=>[.gone,.gone,.cells [ab 0,ab 0],.gone,.gone,.gone,.cells (rows.flatMap cS),.cells [ab ((rows.take k).foldl iR x0).1,ab ((rows.take k).foldl iR x0).2]]) (cf (cJ @take_zero.{0} @foldl_nil.{0,0} hkc)) zp ?_;intro k hk hall;refine zT rows k ?_ ?_;rintro rfl;rotate_left;intro x hx hlt;rotate_left
  ·refine(gg) ?_;rw[bb]
   exact(zV)<|zo [.cell 4 52] (hq:=by rw[hD,oi,kW])
  have hst:=uY (f:=iR) (a:=x0) hx;obtain⟨p,q,hpq⟩:∃p q,(rows.take k).foldl iR x0=(p,q):=⟨_,_,rfl⟩;rw[hpq] at hst ⊢
  refine(gA)<|(aD (uP hlt (aQ (e:=2) (enc:=cS) gc hx) @cS.eq_1 hcl (show k*2+2<=rows.length*2 by omega) hkc))<|(zC)<|(zK (nK p q x.1 x.2))<|(cP (bu @oi.eq_1 @kW.eq_1))<|(aD (zi hlt hlen)) ?_;refine zX hlt (cf (cJ hst @iR.eq_1 hkc)) trivial
structure js where
 u1:Int
 u2:Int
 u3:Int
 u4:Int
 u5:Int
 u6:Int
def eg(u:js):List SV:=[ab u.u1,ab u.u2,ab u.u3,ab u.u4,ab u.u5,ab u.u6]
def nE(u:js)(op:Int):Int×Int:=if op=2 then (u.u1,u.u2) else if op=3 then (u.u3,u.u4) else (u.u5,u.u6)
def applyN(op:Int)(a b:Int×Int):Int×Int:=
 if op=5 then fj jN a.1 a.2 b.1 b.2 else if op=6 then fj C6 a.1 a.2 b.1 b.2 else if op=7 then fj zz a.1 a.2 b.1 b.2
 else if op=9 then (gl a.1 b.1,gl a.2 b.2) else if op=10 then (eH a.1 b.1,eH a.2 b.2) else jC a.1 a.2 b.1 b.2
def nv(a b c:Int×Int):Int×Int:=if oN a.1 a.2 0=2 then b else if oN a.1 a.2 0=0 then c else lX b.1 b.2 c.1 c.2
def D1(u:js)(n:Int):PC prog 348 [.ag (eg u),ab n] (·=oi (n,n)):=by
 refine pB 8 Tryz.func348 ?_;exact(aD @eg.eq_1)<|(zV)<|zo [.cell 4 52]
def DU(u:js)(op:Int):PC prog 347 [.ag (eg u),ab op] (·=oi (nE u op)):=by
 refine pB 19 Tryz.func347 ?_;refine(aD @eg.eq_1)<|(zV)<|(zB) ?_
 cases h1:decide (op=2);rotate_left
 ·exact(aD h1)<|(cI)<|zo [.cell 4 52] (hq:=by rw[nE,ut (ww h1)];rfl)
 refine(aD h1)<|(zN) ?_
 cases h2:decide (op=3);rotate_left
 ·exact(aD h2)<|(cI)<|zo [.cell 4 52] (hq:=by rw[nE,v6 (wt h1),ut (ww h2)];rfl)
 exact(aD h2)<|(lj)<|zo [.cell 4 52] (hq:=by rw[nE,v6 (wt h1),v6 (wt h2)];rfl)
def DD(u:js)(a b c:Int×Int):PC prog 346 [.ag (eg u),oi a,oi b,oi c] (·=oi (nv a b c)):=by
 refine pB 20 Tryz.func346 ?_;refine(aD (cJ @eg.eq_1 @oi.eq_1 @kW.eq_1))<|(zC)<|(zK (qO a.1 a.2 0))<|(zR)<|(zB) ?_
 cases h1:decide (oN a.1 a.2 0=2);rotate_left
 ·exact(aD h1)<|(cI)<|zo [.cell 8 52] (hq:=by rw[nv,ut (ww h1)];rfl)
 refine(aD h1)<|(zN) ?_
 cases h2:decide (oN a.1 a.2 0=0);rotate_left
 ·exact(aD h2)<|(cI)<|zo [.cell 8 52] (hq:=by rw[nv,v6 (wt h1),ut (ww h2)];rfl)
 exact(aD h2)<|(Ml)<|(zK (nK b.1 b.2 c.1 c.2))<|(cP (bu @oi.eq_1 @kW.eq_1))<|zo [.cell 8 52] (hq:=by rw[nv,v6 (wt h1),v6 (wt h2)];rfl)
def Gm(u:js)(op:Int)(a b:Int×Int)(hb:b.1<=b.2):PC prog 345 [.ag (eg u),ab op,oi a,oi b] (·=oi (applyN op a b)):=by
 refine pB 54 Tryz.func345 ?_;refine(aD (cJ @eg.eq_1 @oi.eq_1 @kW.eq_1))<|(zV)<|(zB) ?_
 cases h1:decide (op=5);rotate_left
 ·exact(aD h1)<|(zY)<|(zC)<|(zK (pU a.1 a.2 b.1 b.2))<|(cP (bu @oi.eq_1 @kW.eq_1))<|zo [.cell 8 52] (hq:=by rw[applyN,ut (ww h1)];rfl)
 have g1:=wt h1
 refine(aD h1)<|(zN) ?_
 cases h2:decide (op=6);rotate_left
 ·exact(aD h2)<|(zY)<|(zC)<|(zK (IX a.1 a.2 b.1 b.2))<|(cP (bu @oi.eq_1 @kW.eq_1))<|zo [.cell 8 52] (hq:=by rw[applyN,v6 g1,ut (ww h2)];rfl)
 have g2:=wt h2
 refine(aD h2)<|(zN) ?_
 cases h3:decide (op=7);rotate_left
 ·exact(aD h3)<|(zY)<|(zC)<|(zK (IW a.1 a.2 b.1 b.2))<|(cP (bu @oi.eq_1 @kW.eq_1))<|zo [.cell 8 52] (hq:=by rw[applyN,v6 g1,v6 g2,ut (ww h3)];rfl)
 have g3:=wt h3
 refine(aD h3)<|(zN) ?_
 cases h4:decide (op=9);rotate_left
 ·exact(aD h4)<|(zY)<|(aD @je)<|zo [.cell 8 52] (hq:=by rw[applyN,v6 g1,v6 g2,v6 g3,ut (ww h4)];rfl)
 have g4:=wt h4
 refine(aD h4)<|(zN) ?_
 cases h5:decide (op=10);rotate_left
 ·exact(aD h5)<|(zY)<|(aD @fk)<|zo [.cell 8 52] (hq:=by rw[applyN,v6 g1,v6 g2,v6 g3,v6 g4,ut (ww h5)];rfl)
 have g5:=wt h5
 exact(aD h5)<|(Ml)<|(zK (Gx a.1 a.2 b.1 b.2 hb))<|(cP (bu @oi.eq_1 @kW.eq_1))<|zo [.cell 8 52] (hq:=by rw[applyN,v6 g1,v6 g2,v6 g3,v6 g4,v6 g5];rfl)
inductive bC where
 | mk (op n:Int) (kids:List bC)
def bC.op:bC->Int
 | .mk op _ _=>op
mutual
def aF:bC->List SV
 | .mk op n kids=>[ab op,ab n,.sl kids.length 3 (qn kids)]
def qn:List bC->List SV
 | []=>[]
 | f::fs=>aF f++qn fs
end
def vH:∀l:List bC,qn l=l.flatMap aF
 | []=>by rw[qn];rfl
 | f::l=>by rw[qn,vH l,flatMap_cons]
def dn(op n:Int)(kids:List bC):aF (.mk op n kids)=[ab op,ab n,.sl kids.length 3 (kids.flatMap aF)]:=by rw[aF,vH]
def eW(f:bC):(aF f).length=3:=by
 obtain⟨op,n,kids⟩:=f;rw[dn];rfl
def aT(f:bC):bR (aF f)=true:=by
 obtain⟨op,n,kids⟩:=f;rw[dn];rfl
inductive gD:bC->Prop
 | mk {op n:Int} {kids:List bC}:kids.length<=1000000->(∀k∈kids,gD k)->gD (.mk op n kids)
mutual
def fC:bC->Int->Int
 | .mk _ _ kids,most=>gS kids most 1
def gS:List bC->Int->Int->Int
 | [],_,n=>n
 | k::ks,most,n=>if most<n then n else gS ks most (Co n (fC k (uh most n)))
end
def wg:∀(d:Nat) (f:bC),SizeOf.sizeOf f<d->gD f->∀most:Int,PC Tryz.prog 102 [.ag (aF f),ab most] (·=ab (fC f most))
 | 0,f,hd,_,_=>un hd (Nat.not_lt_zero _)
 | d+1,.mk op n kids,hd,hf,most=>by
  cases hf with
  | mk hlen hks=>
  have hkd:∀k∈kids,SizeOf.sizeOf k<d:=λk hk=>by
   have h1:=List.sizeOf_lt_of_mem hk
   have h2:SizeOf.sizeOf (bC.mk op n kids)=1+SizeOf.sizeOf op+SizeOf.sizeOf n+SizeOf.sizeOf kids:=by simp
   omega
  rw[dn,fC]
  refine pB 27 Tryz.func102 ?_;refine(om)<|(zV)<|(zs) ?_;refine Ho kids (λk (acc:Int)=>gS kids most 1=gS (kids.drop k) most acc) (λk acc=>[(1,ab most),(5,ab acc),(9,an 3 kids aF),(10,ab kids.length),(11,ab k)]) (λk acc=>[]) (1) zH ii ?_;intro k acc hk hall;refine zT kids k ?_ ?_;rintro rfl;rotate_left;intro x hx hlt;rotate_left
  ·exact(gg)<|(zV)<|zo [.tmp 4] (hq:=by rw[hall,List.drop_length,gS])
  rw[eV hx,gS] at hall;have hxm:=List.mem_of_getElem? hx;have ih:=wg d x (hkd x hxm) (hks x hxm);have hxl:((kids.flatMap aF).drop (k*3)).take 3=aF x:=aQ (e:=3) (enc:=aF) eW hx;obtain⟨op',n',kids'⟩:=x;simp only[dn] at hxl ih
  refine(gA)<|(aD (bu hlt hxl)) ?_
  cases h1:decide (most<acc);rotate_left
  ·refine(aD h1)<|(zY) ?_;refine aG.exit ?_;exact(zV)<|zo [.tmp 4] (hq:=by rw[hall,ut (ww h1)])
  refine(aD h1)<|(zN) ?_
  rw[v6 (wt h1)] at hall
  refine(e9 @ot)<|(zK (ih (uh most acc)))<|(cP @sU)<|(aD (zi hlt hlen)) ?_;refine w8 hlt (Co acc (fC (.mk op' n' kids') (uh most acc))) zH hall
def I5(f:bC)(hf:gD f)(most:Int):PC prog 102 [.ag (aF f),ab most] (·=ab (fC f most)):=wg _ f (cd _) hf most
def qV(op:Int):Nat:=if op=11 then 3 else if 5<=op then 2 else 0
mutual
def fY:bC->Bool
 | .mk op n kids=>(decide (1<=op)&&decide (op<=11))&&(decide (kids.length=qV op)&&(!(decide (n<0))&&(!(decide (9999999<n))&&!(decide (0<n)&&!(decide (op=1))))))&&tU kids
def tU:List bC->Bool
 | []=>true
 | k::ks=>fY k&&tU ks
end
def sH:∀l:List bC,tU l=l.all fY
 | []=>by rw[tU];rfl
 | a::l=>by rw[tU,sH l,dt]
def wh:∀(d:Nat) (f:bC),SizeOf.sizeOf f<d->gD f->PC Tryz.prog 103 [.ag (aF f)] (·=ai (fY f))
 | 0,f,hd,_=>un hd (Nat.not_lt_zero _)
 | d+1,.mk op n kids,hd,hf=>by
  cases hf with
  | mk hlen hks=>
  have hkd:∀k∈kids,SizeOf.sizeOf k<d:=λk hk=>by
   have h1:=List.sizeOf_lt_of_mem hk
   have h2:SizeOf.sizeOf (bC.mk op n kids)=1+SizeOf.sizeOf op+SizeOf.sizeOf n+SizeOf.sizeOf kids:=by simp
   omega
  rw[dn,fY,sH];refine pB 59 Tryz.func103 ?_;refine(om) ?_
  (repeat refine aG.seq ?_)
  cases h1:decide (op<1);rotate_left
  ·refine aG.block ?_;exact(aD h1)<|(cI)<|zo [.tmp 2] (hq:=by rw[show decide (1<=op)=false by have:=ww h1;simp;omega];rfl)
  cases h2:decide (11<op);rotate_left
  ·refine aG.block ?_;exact(aD (bu h1 h2))<|(cI)<|zo [.tmp 2] (hq:=by rw[show decide (op<=11)=false by have:=ww h2;simp;omega,Bool.and_false];rfl)
  have g1:=wt h1;have g2:=wt h2;rw[show decide (1<=op)=true by simp;omega,show decide (op<=11)=true by simp;omega];refine aG.mono (Q:=λe st=>e=.normal/\Fg st ⟨[(1,.ptr 0 0),(3,qD (qV op))],59,[.cells [ab op,ab n,.sl kids.length 3 (kids.flatMap aF)]],[]⟩) ?_ ?_
  ·refine aG.block ?_;refine(aD (bu h1 h2))<|(zN) ?_
   cases h3:decide (op=11);rotate_left
   ·refine(aD h3)<|(cI) ?_;exact⟨rfl,(Fg.less (by (simp only[cL,bI,fF,↓reduceIte,Nat.reduceEqDiff,qV,ut (ww h3)])<;>(repeat' apply And.intro)<;>first | rfl | trivial) (by (simp only[cL,bI,or_true,true_or,qV,ut (ww h3)])<;>(repeat' apply And.intro)<;>first | exact .inr rfl | exact .inl rfl | trivial))⟩
   refine(aD h3)<|(zN) ?_
   cases h4:decide (5<=op);rotate_left
   ·refine(aD h4)<|(cI) ?_;exact⟨rfl,(Fg.less (by (simp only[cL,bI,fF,↓reduceIte,Nat.reduceEqDiff,qV,v6 (wt h3),ut (ww h4)])<;>(repeat' apply And.intro)<;>first | rfl | trivial) (by (simp only[cL,bI,or_true,true_or,qV,v6 (wt h3),ut (ww h4)])<;>(repeat' apply And.intro)<;>first | exact .inr rfl | exact .inl rfl | trivial))⟩
   ·refine(aD h4)<|(zN) ?_;exact⟨rfl,(Fg.less (by (simp only[cL,bI,fF,↓reduceIte,Nat.reduceEqDiff,qV,v6 (wt h3),v6 (wt h4)])<;>(repeat' apply And.intro)<;>first | rfl | trivial) (by (simp only[cL,bI,or_true,true_or,qV,v6 (wt h3),v6 (wt h4)])<;>(repeat' apply And.intro)<;>first | exact .inr rfl | exact .inl rfl | trivial))⟩
  rintro e st ⟨rfl,hfg⟩;refine aG.fg hfg ?_;clear hfg
  (try change aG _ _ _ _ _)
  generalize qV op=w;by_cases h3:kids.length=w;rotate_left
  ·rw[show decide (kids.length=w)=false by simpa using h3]
   exact(aD (show decide ((kids.length:Int)=(w:Int))=false by simp;omega))<|(cI)<|zo [.tmp 2]
  rw[show decide (kids.length=w)=true by simpa using h3]
  have h3':decide ((kids.length:Int)=(w:Int))=true:=by simp;omega
  cases h4:decide (n<0);rotate_left
  ·exact(aD (bu h3' h4))<|(cI)<|zo [.tmp 2]
  cases h5:decide (9999999<n);rotate_left
  ·exact(aD (cJ h3' h4 h5))<|(cI)<|zo [.tmp 2]
  by_cases h7:(decide (0<n)&&!(decide (op=1)))=true
  ·rw[Bool.and_eq_true,Bool.not_eq_true'] at h7
   exact(aD (lk h3' h4 h5 @h7.1 @h7.2))<|(cI)<|zo [.tmp 2] (hq:=by rw[h7.1,h7.2];rfl)
  have h8:(decide (0<n)&&!(decide (op=1)))=false:=by simpa using h7
  rw[h8]
  (repeat refine aG.seq ?_)
  refine aG.mono (Q:=λe st=>e=.normal/\Fg st ⟨[(1,.ptr 0 0),(47,ai false)],59,[.cells [ab op,ab n,.sl kids.length 3 (kids.flatMap aF)]],[]⟩) ?_ ?_
  ·cases h6:decide (0<n)
   ·refine(aD (gm h3' h4 h5 h6)) ?_;exact⟨rfl,zH⟩
   ·rw[h6] at h8
    have h9:decide (op=1)=true:=by
     cases h:decide (op=1) with
     | true=>rfl
     | false=>rw[h] at h8;cases h8
    refine(aD (lk h3' h4 h5 h6 h9)) ?_;exact⟨rfl,zH⟩
  rintro e st ⟨rfl,hfg⟩;refine aG.fg hfg ?_;clear hfg
  (try change aG _ _ _ _ _)
  refine(lj)<|(zs) ?_;refine zL kids (λk=>(kids.take k).all fY=true) (λk=>[(49,an 3 kids aF),(50,ab kids.length),(51,ab k)]) (λk=>[]) zH zp ?_;intro k hk hall;refine zT kids k ?_ ?_;rintro rfl;rotate_left;intro x hx hlt;rotate_left
  ·refine(gg)<|(zV) ?_
   rw[List.take_length] at hall;exact zo [.tmp 2] (hq:=by rw[hall];rfl)
  have hxm:=List.mem_of_getElem? hx;have ih:=wh d x (hkd x hxm) (hks x hxm);have hxl:((kids.flatMap aF).drop (k*3)).take 3=aF x:=aQ (e:=3) (enc:=aF) eW hx
  have hnext:fY x=true->(kids.take (k+1)).all fY=true:=λh=>by rw[cM hx,List.all_append,hall];simp[h]
  have hbad:fY x=false->kids.all fY=false:=λh=>by rw[List.all_eq_false];exact⟨x,hxm,by rw[h];decide⟩
  obtain⟨op',n',kids'⟩:=x;simp only[dn] at hxl ih
  refine(gA)<|(aD (bu hlt hxl))<|(zC)<|(zK ih) ?_
  cases h10:fY (.mk op' n' kids')
  ·exact(zR)<|(cI)<|zo [.tmp 2] (hq:=by rw[hbad h10];rfl)
  refine(zR)<|(zN)<|(aD (zi hlt hlen)) ?_;refine zX hlt zH (hnext h10)
def Ak(f:bC)(hf:gD f):PC prog 103 [.ag (aF f)] (·=ai (fY f)):=wh _ f (cd _) hf
def iC(f:bC):Bool:=decide (fC f 60<=60)&&fY f
def qR(f:bC)(hf:gD f):PC prog 43 [.ag (aF f)] (·=ai (Proofs.iC f)):=by
 have hn:=I5 f hf 60;have hr:=Ak f hf;refine pB 10 Tryz.func43 ?_;have hv:Proofs.iC f=(decide (fC f 60<=60)&&fY f):=rfl;generalize fC f 60=N at hn hv;generalize fY f=R at hr hv;obtain⟨op,n,kids⟩:=f;rw[dn] at hn hr ⊢
 refine(jr)<|(zK hn) ?_
 cases h1:decide (N<=60)
 ·exact(cP h1)<|zo [.tmp 2] (hq:=by rw[hv,h1];rfl)
 exact(Mf h1)<|(zK hr)<|(zR)<|zo [.tmp 2] (hq:=by rw[hv,h1];rfl)
mutual
def mR(u:js):bC->Int×Int
 | .mk op n kids=>
  if op=1 then (n,n) else if op<=4 then nE u op
  else match nJ u kids with
   | a::b::l=>if op=11 then (match l with
    | c::_=>nv a b c
    | []=>(0,0)) else applyN op a b
   | _=>(0,0)
def nJ(u:js):List bC->List (Int×Int)
 | []=>[]
 | k::ks=>mR u k::nJ u ks
end
def JY(p q r s:Int):gl (gl (gl p q) r) s<=eH (eH (eH p q) r) s:=by
 have h1:∀a b:Int,gl a b<=a:=λa b=>by unfold gl;split<;>omega
 have h2:∀a b:Int,a<=eH a b:=λa b=>by unfold eH;split<;>omega
 have:=h1 p q;have:=h1 (gl p q) r;have:=h1 (gl (gl p q) r) s;have:=h2 p q;have:=h2 (eH p q) r;have:=h2 (eH (eH p q) r) s;omega
def Cw(f:Int->Int->Int)(a b c d:Int):(fj f a b c d).1<=(fj f a b c d).2:=by
 unfold fj;split
 ·exact JY _ _ _ _
 ·exact ck _
def join_le(a b c d:Int):(lX a b c d).1<=(lX a b c d).2:=by
 unfold lX;split
 ·exact JY _ _ _ _
 ·exact ck _
def PM(l:List (Int×Int))(x:Int×Int)(h:l≠[]):(l.foldl iR x).1<=(l.foldl iR x).2:=by
 rcases List.eq_nil_or_concat l with rfl | ⟨a,y,rfl⟩
 ·exact un rfl h
 ·rw[List.concat_eq_append,co];exact join_le _ _ _ _
def K0(a0 a1 b0 b1:Int):(jC a0 a1 b0 b1).1<=(jC a0 a1 b0 b1).2:=by
 unfold jC;by_cases h:lR a0 a1 b0 b1=[]
 ·rw[h];exact ck _
 ·exact PM _ _ h
def BM{a b c d:Int}(h1:a<=b)(h2:c<=d):gl a c<=gl b d/\eH a c<=eH b d:=by
 unfold gl eH;constructor<;>split<;>split<;>omega
def MD(op:Int){a b:Int×Int}(ha:a.1<=a.2)(hb:b.1<=b.2):(applyN op a b).1<=(applyN op a b).2:=by
 unfold applyN;split
 ·exact Cw _ _ _ _ _
 split
 ·exact Cw _ _ _ _ _
 split
 ·exact Cw _ _ _ _ _
 split
 ·exact(BM ha hb).1
 split
 ·exact(BM ha hb).2
 ·exact K0 _ _ _ _
def KS{a b c:Int×Int}(hb:b.1<=b.2)(hc:c.1<=c.2):(nv a b c).1<=(nv a b c).2:=by
 unfold nv;split
 ·exact hb
 split
 ·exact hc
 ·exact join_le _ _ _ _
structure js.ok (u:js):Prop where
 a:u.u1<=u.u2
 b:u.u3<=u.u4
 c:u.u5<=u.u6
def Lj{u:js}(h:u.ok)(op:Int):(nE u op).1<=(nE u op).2:=by
 unfold nE;split
 ·exact h.a
 split
 ·exact h.b
 ·exact h.c
mutual
def Kt{u:js}(h:u.ok):∀f:bC,(mR u f).1<=(mR u f).2
 | .mk op n kids=>by
  have ih:=Gi h kids;rw[mR];split
  ·exact ck _
  split
  ·exact Lj h op
  ·split
   ·rename_i a b l hl;rw[hl] at ih;split
    ·split
     ·exact KS (ih _ ge) (ih _ ge)
     ·exact ck _
    ·exact MD op (ih _ ge) (ih _ ge)
   ·exact ck _
def Gi{u:js}(h:u.ok):∀l:List bC,∀p∈nJ u l,p.1<=p.2
 | [],p,hp=>by rw[nJ] at hp;cases hp
 | k::ks,p,hp=>by
  rw[nJ] at hp
  rcases t7 hp with rfl | hp
  ·exact Kt h k
  ·exact Gi h ks p hp
end
def BP(P:Program)(nm:String)(t:TypeId)(v:AV)(ys:List AV):Ev.aR P (.a (.fn (.method nm) [.iface t v] ys))=(jd P t nm).map λ_=>.a (.fn (.method nm) [.iface t v] ys):=rfl
def pK(u:js):SV:=.iface 203 (.ag (eg u))
def DY:jd prog 203 "bogie/formula.number"=some 348:=by kernel_rfl
def DX:jd prog 203 "bogie/formula.letter"=some 347:=by kernel_rfl
def we:jd prog 203 "bogie/formula.apply"=some 345:=by kernel_rfl
def uu:jd prog 203 "bogie/formula.choose"=some 346:=by kernel_rfl
def Cd(u:js)(hu:u.ok):∀(d:Nat) (f:bC),SizeOf.sizeOf f<d->gD f->fY f=true->PC Tryz.prog 121 [pK u,.ag (aF f)] (·=oi (mR u f))
 | 0,f,hd,_,_=>un hd (Nat.not_lt_zero _)
 | d+1,.mk op n kids,hd,hf,hr=>by
  cases hf with
  | mk hlen hks=>
  have hkd:∀k∈kids,SizeOf.sizeOf k<d:=λk hk=>by
   have h1:=List.sizeOf_lt_of_mem hk
   have h2:SizeOf.sizeOf (bC.mk op n kids)=1+SizeOf.sizeOf op+SizeOf.sizeOf n+SizeOf.sizeOf kids:=by simp
   omega
  rw[dn,mR]
  refine pB 67 Tryz.func121 ?_;refine(aD (bu @pK.eq_1 @eg.eq_1))<|(zB) ?_
  cases h1:decide (op=1);rotate_left
  ·refine(aD h1)<|(zY) ?_
   rw[ut (ww h1)]
   exact(zC)<|(zK (D1 u n) (hc:=Cg @DY))<|(cP (bu @oi.eq_1 @kW.eq_1))<|zo [.cell 4 52]
  rw[v6 (wt h1)]
  refine(aD h1)<|(zN) ?_
  cases h2:decide (op<=4);rotate_left
  ·refine(aD h2)<|(zY) ?_
   rw[ut (ww h2)]
   exact(zC)<|(zK (DU u op) (hc:=Cg @DX))<|(cP (bu @oi.eq_1 @kW.eq_1))<|zo [.cell 4 52]
  rw[v6 (wt h2)]
  refine(aD h2)<|(zN) ?_
  rw[fY,Bool.and_eq_true,Bool.and_eq_true,Bool.and_eq_true,Bool.and_eq_true] at hr;obtain⟨⟨hr1,hr2,_⟩,hr3⟩:=hr;have hop1:=ww hr1.1;have hop2:=ww hr1.2;have hkl:=ww hr2;have h1':=wt h1;have h2':=wt h2;rw[sH] at hr3;have n0:di (.int .i64 0)=some 0:=rfl;have n1:di (.int .i64 1)=some 1:=rfl;have n2:di (.int .i64 2)=some 2:=rfl
  have hkid:∀{j:Nat} {x:bC},kids[j]?=some x->PC Tryz.prog 121 [pK u,.ag (aF x)] (·=oi (mR u x)):=λ{j x} hx=>by
   have hxm:=List.mem_of_getElem? hx;exact Cd u hu d x (hkd x hxm) (hks x hxm) (List.all_eq_true.1 hr3 x hxm)
  have hat:∀{j:Nat} {x:bC},kids[j]?=some x->((kids.flatMap aF).drop (j*3)).take 3=aF x:=λhx=>aQ (e:=3) (enc:=aF) eW hx;cases h3:decide (op=11)
  ·have h3':=wt h3
   have hw:kids.length=2:=by rw[hkl,qV,v6 h3',ut i4]
   obtain⟨x0,x1,hk2⟩:∃x0 x1,kids=[x0,x1]:=by
    match kids,hw with
    | [a,b],_=>exact⟨a,b,rfl⟩
   have e0:kids[0]?=some x0:=by rw[hk2];rfl
   have e1:kids[1]?=some x1:=by rw[hk2];rfl
   have hrun:nJ u kids=[mR u x0,mR u x1]:=by rw[hk2,nJ,nJ,nJ]
   rw[hrun];simp only[v6 h3'];have hb:=Kt hu x1;have a0:=hat e0;have a1:=hat e1;have k0:=hkid e0;have k1:=hkid e1
   have t0:(kids.flatMap aF).take 3=aF x0:=by rwa [Nat.zero_mul,List.drop_zero] at a0
   rw[pK,eg] at k0 k1;generalize mR u x0=r0 at k0 ⊢;generalize mR u x1=r1 at k1 hb ⊢;obtain⟨o0,m0,s0⟩:=x0;obtain⟨o1,m1,s1⟩:=x1;rw[dn] at t0 a1 k0 k1
   have l0:0<kids.length:=by omega
   have l1:1<kids.length:=by omega
   refine(aD h3)<|(zN)<|(zs) ?_;refine nh [0,0,2,0,0,16,48,112,248,0,0,1024,3072,7168,16376,1,32769,98305,262143,524287] ?_;refine(uH (cJ n0 l0 t0))<|(xJ (k0))<|(uH (cJ n1 l1 a1))<|(xJ (k1))<|(uH (cJ @dj.eq_28 @BP @we)) ?_;refine SD.k ii rfl rfl ii rfl rfl (Cg @we) (Gm u op r0 r1 hb) (zw) rfl ?_;refine SD.e ii rfl ii rfl rfl ii zl ?_;exact(zM)<|zo [.cell 4 52]
  ·have h3':=ww h3
   have hw:kids.length=3:=by rw[hkl,qV,ut h3']
   obtain⟨x0,x1,x2,hk2⟩:∃x0 x1 x2,kids=[x0,x1,x2]:=by
    match kids,hw with
    | [a,b,c],_=>exact⟨a,b,c,rfl⟩
   have e0:kids[0]?=some x0:=by rw[hk2];rfl
   have e1:kids[1]?=some x1:=by rw[hk2];rfl
   have e2:kids[2]?=some x2:=by rw[hk2];rfl
   have hrun:nJ u kids=[mR u x0,mR u x1,mR u x2]:=by rw[hk2,nJ,nJ,nJ,nJ]
   rw[hrun];simp only[ut h3'];have a0:=hat e0;have a1:=hat e1;have a2:=hat e2;have k0:=hkid e0;have k1:=hkid e1;have k2:=hkid e2
   have t0:(kids.flatMap aF).take 3=aF x0:=by rwa [Nat.zero_mul,List.drop_zero] at a0
   rw[pK,eg] at k0 k1 k2;generalize mR u x0=r0 at k0 ⊢;generalize mR u x1=r1 at k1 ⊢;generalize mR u x2=r2 at k2 ⊢;obtain⟨o0,m0,s0⟩:=x0;obtain⟨o1,m1,s1⟩:=x1;obtain⟨o2,m2,s2⟩:=x2;rw[dn] at t0 a1 a2 k0 k1 k2
   have l0:0<kids.length:=by omega
   have l1:1<kids.length:=by omega
   have l2:2<kids.length:=by omega
   refine(aD h3)<|(zY)<|(zs) ?_;refine nh [0,0,0,4,12,28,62,0,0,256,768,1792,4094,0,0,16384,49152,114688,262142,1,524289,1572865,4194303,8388607] ?_;refine(uH (cJ n0 l0 t0))<|(xJ (k0))<|(uH (cJ n1 l1 a1))<|(xJ (k1))<|(uH (cJ n2 l2 a2))<|(xJ (k2))<|(uH (cJ @dj.eq_28 @BP @uu)) ?_;refine SD.k ii rfl rfl ii rfl rfl (Cg @uu) (DD u r0 r1 r2) (zw) rfl ?_;refine SD.e ii rfl ii rfl rfl ii zl ?_;exact(zM)<|zo [.cell 4 52]
def OS(u:js)(hu:u.ok)(f:bC)(hf:gD f)(hr:fY f=true):PC prog 121 [pK u,.ag (aF f)] (·=oi (mR u f)):=Cd u hu _ f (cd _) hf hr
def js.Lb(u:js):Bool:=jG u.u1 u.u2&&(jG u.u3 u.u4&&jG u.u5 u.u6)
def qZ(f:bC)(u:js):Int×Int:=if u.Lb=true/\iC f=true then (eH 0 (mR u f).1,eH 0 (mR u f).2) else (0,0)
def H2{a b:Int}(h:jG a b=true):a<=b:=by
 unfold jG at h;simp only[ac,bg,wn] at h;omega
def js.PN{u:js}(h:u.Lb=true):u.ok:=by
 unfold js.Lb at h;simp only[ac] at h;exact⟨H2 h.1,H2 h.2.1,H2 h.2.2⟩
def Gt(f:bC)(u:js)(hf:gD f):PC prog 49 [.ag (aF f),.ag (eg u)] (·=oi (qZ f u)):=by
 have hv:=qR f hf;have hr:=λh1 h2=>OS u h1 f hf h2
 have hd:qZ f u=if u.Lb=true/\Proofs.iC f=true then (eH 0 (mR u f).1,eH 0 (mR u f).2) else (0,0):=rfl
 have hvr:Proofs.iC f=true->fY f=true:=λh=>by unfold Proofs.iC at h;simp only[ac] at h;exact h.2
 generalize Proofs.iC f=V at hv hd hvr;generalize fY f=R at hr hvr;generalize mR u f=r at hr hd;obtain⟨op,n,kids⟩:=f;rw[dn] at hv hr ⊢;obtain⟨ivs,hivs⟩:∃l:List (Int×Int),l=[(u.u1,u.u2),(u.u3,u.u4),(u.u5,u.u6)]:=⟨_,rfl⟩
 have hgood:u.Lb=ivs.all λp=>jG p.1 p.2:=by rw[hivs];simp[js.Lb]
 have hkc:∀(o:Nat) (l:List (Int×Int)),(l.flatMap cS).map (aM o)=l.flatMap cS:=λo l=>bx mn o l;have hcl:=aU q9 ivs
 have hlen:ivs.length<=1000:=by rw[hivs];simp
 refine pB 53 Tryz.func49 ?_;refine(aD @eg.eq_1)<|(zV)<|(zs) ?_;refine zL ivs (λk=>(ivs.take k).all (λp=>jG p.1 p.2)=true) (λk=>[(2,.ptr 0 0),(3,.ptr 1 0),(4,.ptr 2 0),(14,.buf 3 ivs.length 2 (some 3)),(15,ab ivs.length),(16,ab k)]) (λk=>[.cells [ab op,ab n,.sl kids.length 3 (kids.flatMap aF)],.cells (eg u),.cells [ab 0,ab 0],.cells (ivs.flatMap cS)]) (cf (Mj @eg.eq_1 hivs @i7.{0} @i5.{0} @flatMap_cons.{0,0} @flatMap_nil.{0,0} @cS.eq_1 @cons_append.{0} @nil_append.{0})) zp ?_;intro k hk hall;refine zT ivs k ?_ ?_;rintro rfl;rotate_left;intro x hx hlt;rotate_left
 ·refine(gg) ?_;rw[bb] at hall;rw[<-hgood] at hall
  refine(e9 @eg.eq_1)<|(zK hv) ?_
  cases hV:V
  ·exact(zR)<|(cI)<|zo [.cell 4 52] (hq:=by rw[hd,v6 (by rw[hV];simp)];rfl)
  refine(zR)<|(zN) ?_
  have hrr:=hr (js.PN hall) (hvr hV);rw[pK,eg] at hrr
  exact(e9 @eg.eq_1)<|(zK hrr)<|(cP (bu @oi.eq_1 @kW.eq_1))<|(aD @fk)<|zo [.cell 4 52] (hq:=by rw[hd,ut ⟨hall,hV⟩];rfl)
 have hnext:jG x.1 x.2=true->(ivs.take (k+1)).all (λp=>jG p.1 p.2)=true:=λh=>by rw[cM hx,b7,hall];simp[h]
 have hbad:jG x.1 x.2=false->qZ (.mk op n kids) u=(0,0):=λh=>by
  rw[hd,v6];rintro⟨h2,_⟩;rw[hgood] at h2;have:=all_eq_true.1 h2 x (aS hx);rw[h] at this;cases this
 refine(gA)<|(aD (Hm hlt (aQ (e:=2) (enc:=cS) gc hx) @cS.eq_1 @eg.eq_1 hcl hkc (show k*2+2<=ivs.length*2 by omega))) ?_
 cases g1:decide (x.1<0);rotate_left
 ·exact(aD g1)<|(cI)<|zo [.cell 4 52] (hq:=by rw[hbad (by rw[jG,g1];rfl)];rfl)
 cases g2:decide (x.2<x.1);rotate_left
 ·exact(aD (bu g1 g2))<|(cI)<|zo [.cell 4 52] (hq:=by rw[hbad (by rw[jG,g1,g2];rfl)];rfl)
 cases g3:decide (1000000<x.2);rotate_left
 ·exact(aD (cJ g1 g2 g3))<|(cI)<|zo [.cell 4 52] (hq:=by rw[hbad (by rw[jG,g1,g2,g3];rfl)];rfl)
 refine(aD (cJ g1 g2 g3))<|(zN)<|(aD (zi hlt (show ivs.length<=1000000 by omega))) ?_;refine zX hlt (cf (bu hkc @eg.eq_1)) (hnext (by rw[jG,g1,g2,g3];rfl))
def rf(h:∀x,(enc x).all eB=true)(l:List α):(l.flatMap enc).all eB=true:=by
 rw[List.all_flatMap,all_eq_true];exact λx _=>h x
def dx(p:aq):bR (ae p)=true:=rfl
def gK(p:bN):bR (aJ p)=true:=rfl
def JJ(l:List bB):(l.flatMap ar).all eB=true:=rf (λ_=>rfl) l
def BS(l:List aq):(l.flatMap ae).all eB=true:=rf (λ_=>rfl) l
def BT(l:List bN):(l.flatMap aJ).all eB=true:=rf (λ_=>rfl) l
def wQ:SC prog 50 [an 14 ([]:List aq) ae] [] [] (λr S'=>r=.e0 14/\S'=[]):=by
 refine LK 8 func50 ?_;refine(jr) ?_;refine aL.Ls ii rfl rfl ii rfl rfl (by simp only[aC]) zW ?_;intro b _;refine(zR) ?_;cases b
 ·refine(lj) ?_;refine aG.fg (Fg.e0 2 14 (.inr ⟨0,rfl⟩)) ?_;refine zA [(2,.e0 14)] [] zH<|(zE) ?_;exact zP [.tmp 2]
 ·refine(cI) ?_;refine aG.fg (Fg.e0 2 14 (.inl rfl)) ?_;refine(zE) ?_;exact zP [.tmp 2]
def pZ(l:List aq)(hlen:l.length<=1000000)(hne:l≠[]):SC prog 50 [an 14 l ae] [] [] (λr S'=>r=.buf 1 l.length 14 none/\S'=[.gone,.cells (l.flatMap ae)]):=by
 have h0:¬l.length=0:=λe=>hne (t8 e);refine LK 8 func50 ?_;have hkc:=λo=>bx (enc:=ae) dx o l;have hon:(l.flatMap ae).all eB=true:=BS l;refine(jr) ?_;refine aL.Ls ii rfl rfl ii rfl rfl (by simp only[aC]) zW ?_;intro b hb;cases b;rotate_left
 ·exact un (hb rfl) h0
 refine(zR)<|(zN) ?_
 have hp0:0<l.length:=b5 h0
 refine(aD (uP h0 hp0 hlen hon hkc @aa))<|zA [(2,.buf 1 l.length 14 none)] [.gone,.cells (l.flatMap ae)] zH<|(zE) ?_;exact zP [.tmp 2]
def wR:SC prog 199 [an 2 ([]:List bN) aJ] [] [] (λr S'=>r=.e0 2/\S'=[]):=by
 refine LK 8 func199 ?_;refine(jr) ?_;refine aL.Ls ii rfl rfl ii rfl rfl (by simp only[aC]) zW ?_;intro b _;refine(zR) ?_;cases b
 ·refine(lj) ?_;refine aG.fg (Fg.e0 2 2 (.inr ⟨0,rfl⟩)) ?_;refine zA [(2,.e0 2)] [] zH<|(zE) ?_;exact zP [.tmp 2]
 ·refine(cI) ?_;refine aG.fg (Fg.e0 2 2 (.inl rfl)) ?_;refine(zE) ?_;exact zP [.tmp 2]
def wS(l:List bN)(hlen:l.length<=1000000)(hne:l≠[]):SC prog 199 [an 2 l aJ] [] [] (λr S'=>r=.buf 1 l.length 2 none/\S'=[.gone,.cells (l.flatMap aJ)]):=by
 have h0:¬l.length=0:=λe=>hne (t8 e);refine LK 8 func199 ?_;have hkc:=λo=>bx (enc:=aJ) gK o l;have hon:(l.flatMap aJ).all eB=true:=BT l;refine(jr) ?_;refine aL.Ls ii rfl rfl ii rfl rfl (by simp only[aC]) zW ?_;intro b hb;cases b;rotate_left
 ·exact un (hb rfl) h0
 refine(zR)<|(zN) ?_
 have hp0:0<l.length:=b5 h0
 refine(aD (uP h0 hp0 hlen hon hkc @aa))<|zA [(2,.buf 1 l.length 2 none)] [.gone,.cells (l.flatMap aJ)] zH<|(zE) ?_;exact zP [.tmp 2]
def sb:SC prog 45 [an 14 ([]:List bB) ar] [] [] (λr S'=>r=.e0 14/\S'=[]):=by
 refine LK 8 func45 ?_;refine(jr) ?_;refine aL.Ls ii rfl rfl ii rfl rfl (by simp only[aC]) zW ?_;intro b _;refine(zR) ?_;cases b
 ·refine(lj) ?_;refine aG.fg (Fg.e0 2 14 (.inr ⟨0,rfl⟩)) ?_;refine zA [(2,.e0 14)] [] zH<|(zE) ?_;exact zP [.tmp 2]
 ·refine(cI) ?_;refine aG.fg (Fg.e0 2 14 (.inl rfl)) ?_;refine(zE) ?_;exact zP [.tmp 2]
def sd(l:List bB)(hlen:l.length<=1000000)(hne:l≠[]):SC prog 45 [an 14 l ar] [] [] (λr S'=>r=.buf 1 l.length 14 none/\S'=[.gone,.cells (l.flatMap ar)]):=by
 have h0:¬l.length=0:=λe=>hne (t8 e);refine LK 8 func45 ?_;have hkc:=λo=>bx (enc:=ar) bU o l;have hon:(l.flatMap ar).all eB=true:=JJ l;refine(jr) ?_;refine aL.Ls ii rfl rfl ii rfl rfl (by simp only[aC]) zW ?_;intro b hb;cases b;rotate_left
 ·exact un (hb rfl) h0
 refine(zR)<|(zN) ?_
 have hp0:0<l.length:=b5 h0
 refine(aD (uP h0 hp0 hlen hon hkc @aa))<|zA [(2,.buf 1 l.length 14 none)] [.gone,.cells (l.flatMap ar)] zH<|(zE) ?_;exact zP [.tmp 2]
section
variable {α:Type} {enc:α->List SV} {e:Nat}
def gN(he:∀x,(enc x).length=e):∀(l:List α) (i:Nat),(l.flatMap enc).take (i*e)=(l.take i).flatMap enc
 | [],i=>by simp
 | a::l,0=>by simp
 | a::l,i+1=>by
  rw[flatMap_cons,cl,c0,List.take_succ_cons,flatMap_cons,<-gN he l i];rw[d4,he,show e+i*e-e=i*e by omega,aj (by rw[he];omega)]
def mI(he:∀x,(enc x).length=e):∀(l:List α) (i:Nat),(l.flatMap enc).drop (i*e)=(l.drop i).flatMap enc
 | [],i=>by simp
 | a::l,0=>by simp
 | a::l,i+1=>by
  rw[flatMap_cons,cl,c0,List.drop_succ_cons,<-mI he l i];rw[List.drop_append,he,show e+i*e-e=i*e by omega,aW (by rw[he];omega),nil_append]
def rh(he:∀x,(enc x).length=e){l:List α}(y:α)(h:i<l.length):(l.flatMap enc).take (i*e)++(enc y++(l.flatMap enc).drop (i*e+e))=(l.set i y).flatMap enc:=by
 rw[gN he,show i*e+e=(i+1)*e by rw[cl],mI he,bd,ut h,bc,flatMap_cons]
end
def wG{α:Type}(lt:α->α->Bool):Nat->List α->List α
 | 0,l=>l
 | j+1,l=>match l[j+1]?,l[j]? with
  | some x,some y=>if lt x y=true then wG lt j ((l.set (j+1) y).set j x) else l
  | _,_=>l
def CU{α:Type}(lt:α->α->Bool):Nat->Nat->List α->List α
 | 0,_,l=>l
 | n+1,i,l=>CU lt n (i+1) (wG lt i l)
def AG(lt:α->α->Bool)(l:List α):List α:=CU lt (l.length-1) 1 l
def EI{α:Type}{lt:α->α->Bool}:∀(j:Nat) (l:List α),(wG lt j l).length=l.length
 | 0,l=>rfl
 | j+1,l=>by
  unfold wG;split
  ·split
   ·rw[EI j,ba,ba]
   ·rfl
  ·rfl
def Fk{α:Type}{lt:α->α->Bool}:∀(n i:Nat) (l:List α),(CU lt n i l).length=l.length
 | 0,_,_=>rfl
 | n+1,i,l=>by rw[CU,Fk n,EI]
def yv(lt:α->α->Bool)(l:List α):(AG lt l).length=l.length:=Fk _ _ _
def swap_perm{j:Nat}{x y:α}(hx:l[j+1]?=some x)(hy:l[j]?=some y):((l.set (j+1) y).set j x).Perm l:=by
 have h1:j+1<l.length:=bq hx
 have h0:j<l.length:=by omega
 have e:l=l.take j++(y::x::l.drop (j+2)):=by
  have a1:l.drop j=y::l.drop (j+1):=eV hy;have a2:l.drop (j+1)=x::l.drop (j+2):=eV hx;rw[<-a2,<-a1,List.take_append_drop]
 have hlt:(l.take j).length=j:=by rw[ad];omega
 have e2:(l.set (j+1) y).set j x=l.take j++(x::y::l.drop (j+2)):=by
  apply dv;intro i;rw[dC,List.getElem?_append,hlt];by_cases c1:j=i
  ·subst c1;rw[ut rfl,ba,ut h0,v6 (ef _),d2];rfl
  ·rw[v6 c1,dC];by_cases c2:j+1=i
   ·subst c2;rw[ut rfl,ut h1,v6 i4,show j+1-j=1 by omega];rfl
   ·rw[v6 c2];by_cases c3:i<j
    ·rw[ut c3,ds,ut c3]
    ·rw[v6 c3,show i-j=(i-(j+2))+2 by omega,bh,bh,cn,show j+2+(i-(j+2))=i by omega]
 rw[e2]
 conv=>rhs;rw[e]
 exact Perm.append_left _ (Perm.swap _ _ _)
def Bl{α:Type}{lt:α->α->Bool}:∀(j:Nat) (l:List α),(wG lt j l).Perm l
 | 0,l=>Perm.refl _
 | j+1,l=>by
  unfold wG;split
  ·rename_i x y hx hy;split
   ·exact(Bl j _).trans (swap_perm hx hy)
   ·exact Perm.refl _
  ·exact Perm.refl _
def BB{α:Type}{lt:α->α->Bool}:∀(n i:Nat) (l:List α),(CU lt n i l).Perm l
 | 0,_,_=>Perm.refl _
 | n+1,i,l=>by rw[CU];exact(BB n (i+1) _).trans (Bl i l)
def u9(lt:α->α->Bool)(l:List α):(AG lt l).Perm l:=BB _ _ _
def rQ(cmp:bB->bB->Int)(x y:bB):Bool:=decide (cmp x y<0)
def IU(g:FuncId)(cmp:bB->bB->Int)(hg:∀x y,PC prog g [.ag (ar x),.ag (ar y)] (·=ab (cmp x y)))(c:Option Nat)(l:List bB)(hlen:l.length<=100000):
 SC prog 305 [.buf 0 l.length 14 c,ab 0,ab l.length,.fn g [] []] [.cells (l.flatMap ar)] [] (λr S'=>r=.cx []/\S'=[.cells ((AG (rQ cmp) l).flatMap ar)]):=by
 refine OE 53 Tryz.func305 ?_;refine(zV) ?_
 (repeat refine aG.seq ?_)
 refine aG.block (aG.loop (λm st=>∃(i:Nat) (q:List bB),(q.length=l.length/\(i+1<=l.length\/i=0))/\AG (rQ cmp) l=CU (rQ cmp) (l.length-(i+1)) (i+1) q/\l.length-i=m/\st=⟨[(0,.buf 0 l.length 14 c),(1,ab 0),(2,ab l.length),(3,.fn g [] []),(8,qD (i+1)),(1000000,.ptr 0 0)],53,[.cells (q.flatMap ar)],[]⟩) l.length zH ⟨0,l,⟨rfl,.inr rfl⟩,rfl,ce _,rfl⟩ (by rintro m st ⟨i,q,_,_,_,rfl⟩;rfl) ?_);rintro m st ⟨i,q,⟨hql,hi⟩,hres,rfl,rfl⟩;refine(zV) ?_;by_cases hlt:i+1<l.length;rotate_left
 ·rw[show decide (((i+1:Nat):Int)<(l.length:Int))=false by simp only[wn];omega]
  refine(zN)<|zA [(1000000,.ptr 0 0)] [.cells (q.flatMap ar)] zH ?_;refine aG.exit ?_
  simp only[eN,c8,bW,bK,if_true];rw[show l.length-(i+1)=0 by omega,CU] at hres;exact zP [] (hq:=by (try simp only[eC,bJ]);first | done | (rw[hres];first | exact⟨rfl,rfl⟩ | exact⟨trivial,rfl⟩ | exact⟨rfl,trivial⟩ | exact⟨trivial,trivial⟩))
 rw[show decide (((i+1:Nat):Int)<(l.length:Int))=true by simp only[wp];omega]
 refine(gA)<|(zV) ?_
 obtain⟨s,hs⟩:∃s,l.length-(i+1)=s+1:=⟨l.length-(i+1)-1,by omega⟩;rw[hs,CU] at hres
 (repeat refine aG.seq ?_)
 refine aG.block (aG.loop (λm st=>∃(j:Nat) (p:List bB),(p.length=l.length/\j<=i+1)/\wG (rQ cmp) (i+1) q=wG (rQ cmp) j p/\j=m/\st=⟨[(0,.buf 0 l.length 14 c),(1,ab 0),(2,ab l.length),(3,.fn g [] []),(8,qD (i+1)),(9,qD j),(1000000,.ptr 0 0)],53,[.cells (p.flatMap ar)],[]⟩) (i+1) zH ⟨i+1,q,⟨hql,aa _⟩,rfl,rfl,rfl⟩ (by rintro m st ⟨j,p,_,_,_,rfl⟩;rfl) ?_);rintro m st ⟨j,p,⟨hpl,hj⟩,hb,rfl,rfl⟩;have hil:i+1<l.length:=hlt
 have hcl:(p.flatMap ar).length=l.length*14:=by rw[aU cK,hpl]
 cases j with
 | zero=>
  refine(zs) ?_;refine nh [0,0,3,7,15,15,15,111,239,15,15,1039,3599,7695,16383,32767,65535] ?_;refine(uH (show decide ((0:Int)<((0:Nat):Int))=false from rfl))<|(zM)<|(gg)<|(aD (Ct (show -9223372036854775808<=((i+1:Nat):Int)+1/\((i+1:Nat):Int)+1<=9223372036854775807 from⟨by omega,by omega⟩))) ?_;exact⟨l.length-(i+1),_,by omega,zH,i+1,p,⟨hpl,.inl i4⟩,by rw[hres,hb,wG,show l.length-(i+1+1)=s by omega],rfl,rfl⟩
 | succ j=>
  have hj1:j+1<l.length:=by omega
  have hj0:j<l.length:=by omega
  obtain⟨x,hx⟩:∃x,p[j+1]?=some x:=⟨p[j+1],jp i4⟩;obtain⟨y,hy⟩:∃y,p[j]?=some y:=⟨p[j],jp i4⟩;have ax:((p.flatMap ar).drop ((j+1)*14)).take 14=ar x:=aQ (e:=14) (enc:=ar) cK hx;have ay:((p.flatMap ar).drop (j*14)).take 14=ar y:=aQ (e:=14) (enc:=ar) cK hy
  have hbs:wG (rQ cmp) (j+1) p=if rQ cmp x y=true then wG (rQ cmp) j ((p.set (j+1) y).set j x) else p:=by rw[wG,hx,hy]
  have s1:=rh (enc:=ar) cK (l:=p) (i:=j+1) y i4;have s2:=rh (enc:=ar) cK (l:=p.set (j+1) y) (i:=j) x (by rw[ba];omega)
  have hcl2:((p.set (j+1) y).flatMap ar).length=l.length*14:=by rw[aU cK,ba,hpl]
  rw[dw y] at s1 ay;rw[dw x] at s2 ax;simp only[cons_append,nil_append] at s1 s2;have hgx:=hg x y;rw[dw y,dw x] at hgx
  refine(zs) ?_;refine nh [0,0,3,7,15,15,15,111,239,15,15,1039,3599,7695,16383,32767,65535] ?_;refine(uH (MX (show decide ((0:Int)<((j+1:Nat):Int))=true from by simp only[wp];omega) hj1 hj0 (QZ (show -9223372036854775808<=((j+1:Nat):Int)-1/\((j+1:Nat):Int)-1<=9223372036854775807 from⟨by omega,by omega⟩)) (show((j+1:Nat):Int)-1=(j:Int) from by omega) hcl (show(j+1)*14+14<=l.length*14 by omega) (show j*14+14<=l.length*14 by omega) ax ay))<|(xJ (hgx)) ?_
  cases hc:decide (cmp x y<0)
  ·rw[rQ,hc,v6 g9] at hbs
   refine(uH hc)<|(zM)<|(gg)<|(aD (Ct (show -9223372036854775808<=((i+1:Nat):Int)+1/\((i+1:Nat):Int)+1<=9223372036854775807 from⟨by omega,by omega⟩))) ?_;exact⟨l.length-(i+1),_,by omega,zH,i+1,p,⟨hpl,.inl i4⟩,by rw[hres,hb,hbs,show l.length-(i+1+1)=s by omega],rfl,rfl⟩
  ·rw[rQ,hc,ut rfl] at hbs
   refine(uH hc)<|(zM)<|(gA)<|(zs) ?_;refine nh [0,0,0,0,8,0,0,64,224,480,0,0,3072,7168,16355,32739,65535,131071] ?_;refine(uH (Mj hj1 hj0 (QZ (show -9223372036854775808<=((j+1:Nat):Int)-1/\((j+1:Nat):Int)-1<=9223372036854775807 from⟨by omega,by omega⟩)) (show((j+1:Nat):Int)-1=(j:Int) from by omega) hcl (show(j+1)*14+14<=l.length*14 by omega) (show j*14+14<=l.length*14 by omega) ax ay)) ?_;refine SD.e ii rfl ii rfl rfl ii (me (cJ hcl (show(j+1)*14+14<=l.length*14 by omega) s1)) ?_;refine(uH (gm hj1 hj0 (QZ (show -9223372036854775808<=((j+1:Nat):Int)-1/\((j+1:Nat):Int)-1<=9223372036854775807 from⟨by omega,by omega⟩)) (show((j+1:Nat):Int)-1=(j:Int) from by omega))) ?_;refine SD.e ii rfl ii rfl rfl ii (me (cJ hcl2 (show j*14+14<=l.length*14 by omega) s2)) ?_;refine(zM)<|(aD (bu (QZ (show -9223372036854775808<=((j+1:Nat):Int)-1/\((j+1:Nat):Int)-1<=9223372036854775807 from⟨by omega,by omega⟩)) (show((j+1:Nat):Int)-1=(j:Int) from by omega))) ?_;exact⟨j,_,by omega,zH,j,(p.set (j+1) y).set j x,⟨by rw[ba,ba,hpl],by omega⟩,by rw[hb,hbs],rfl,rfl⟩
def G1(g:FuncId)(cmp:bB->bB->Int)(hg:∀x y,PC prog g [.ag (ar x),.ag (ar y)] (·=ab (cmp x y)))(c:Option Nat)(l:List bB)(hlen:l.length<20):
 SC prog 257 [.buf 0 l.length 14 c,ab l.length,.fn g [] []] [.cells (l.flatMap ar)] [] (λr S'=>r=.cx []/\S'=[.cells ((AG (rQ cmp) l).flatMap ar)]):=by
 have hins:=IU g cmp hg c l i4;have hrc:∀(g:Nat->Nat) (l:List bB),mP g (l.flatMap ar)=l.flatMap ar:=λg l=>bp (aE bU l);have hbc:∀(B:Nat) (l:List bB),iI B (l.flatMap ar)=true:=λB l=>bO (aE bU l);have hkc:∀(o:Nat) (l:List bB),(l.flatMap ar).map (aM o)=l.flatMap ar:=λo l=>bx bU o l
 have h1:decide ((20:Int)<=(l.length:Int))=false:=by simp only[wn];omega
 have h2:decide ((20:Int)<(l.length:Int))=false:=by simp only[wn];omega
 refine OE 63 Tryz.func257 ?_;refine(om) ?_
 (repeat refine aG.seq ?_)
 refine aG.block (aG.loop (λm st=>m=0/\st=⟨[(0,.buf 0 l.length 14 c),(1,ab l.length),(2,.fn g [] []),(6,ab 20),(7,ab 0),(8,ab 20),(1000000,.ptr 0 0)],63,[.cells (l.flatMap ar)],[]⟩) 0 zH ⟨rfl,rfl⟩ (by rintro m st ⟨_,rfl⟩;rfl) ?_);rintro m st ⟨rfl,rfl⟩
 refine(aD h1)<|(gg) ?_
 (try change aG _ _ _ _ _)
 refine(zC) ?_;refine zS [0] (cJ hrc hbc hkc) hins ?_;refine(zR) ?_
 (repeat refine aG.seq ?_)
 refine aG.block (aG.loop (λm st=>m=0/\st=⟨[(1,ab l.length),(6,ab 20),(1000000,.ptr 0 0)],63,[.cells ((AG (rQ cmp) l).flatMap ar)],[]⟩) 0 zH ⟨rfl,rfl⟩ (by rintro m st ⟨_,rfl⟩;rfl) ?_);rintro m st ⟨rfl,rfl⟩
 refine(aD h2)<|(gg) ?_
 simp only[eN,c8,bW,bK,if_true];exact zP []
def Bd(g:FuncId)(cmp:bB->bB->Int)(hg:∀x y,PC prog g [.ag (ar x),.ag (ar y)] (·=ab (cmp x y)))(c:Option Nat)(l:List bB)(hlen:l.length<20):
 SC prog 185 [.buf 0 l.length 14 c,.fn g [] []] [.cells (l.flatMap ar)] [] (λr S'=>r=.cx []/\S'=[.cells ((AG (rQ cmp) l).flatMap ar)]):=by
 have hins:=G1 g cmp hg c l hlen;have hrc:∀(g:Nat->Nat) (l:List bB),mP g (l.flatMap ar)=l.flatMap ar:=λg l=>bp (aE bU l);have hbc:∀(B:Nat) (l:List bB),iI B (l.flatMap ar)=true:=λB l=>bO (aE bU l);have hkc:∀(o:Nat) (l:List bB),(l.flatMap ar).map (aM o)=l.flatMap ar:=λo l=>bx bU o l;refine OE 9 Tryz.func185 ?_;refine(zC) ?_;refine zS [0] (cJ hrc hbc hkc) hins ?_;refine(zR) ?_;exact zP []
def B9(a:Int):PC prog 158 [ab a] (·=ai false):=by
 refine pB 6 Tryz.func158 ?_;exact(zV)<|(aD (show decide (a=a)=true from wl rfl))<|zo [.tmp 2]
def Ca(a:List Nat):PC prog 159 [ah a] (·=ai false):=by
 refine pB 6 func159 ?_;exact(zV)<|(aD (show decide (a=a)=true from wl rfl))<|zo [.tmp 2]
def M3(a b:Int):Int:=if a<b then -1 else if b<a then 1 else 0
def AY(a b:Int):PC prog 78 [ab a,ab b] (·=ab (M3 a b)):=by
 refine pB 20 Tryz.func78 ?_;refine(jr)<|(zK (B9 a))<|(zR)<|(zC)<|(zK (B9 b))<|(zR)<|(El)<|(El) ?_
 cases h1:decide (a<b);rotate_left
 ·exact(aD h1)<|(cI)<|zo [.tmp 4] (hq:=by rw[M3,ut (ww h1)])
 refine(aD h1)<|(zN) ?_
 cases h2:decide (b<a);rotate_left
 ·exact(aD h2)<|(cI)<|zo [.tmp 4] (hq:=by rw[M3,v6 (wt h1),ut (ww h2)])
 exact(aD h2)<|(lj)<|zo [.tmp 4] (hq:=by rw[M3,v6 (wt h1),v6 (wt h2)])
def wI(a b:List Nat):Int:=if gC a b=true then -1 else if a=b then 0 else 1
def sg(a b:List Nat):PC prog 79 [ah a,ah b] (·=ab (wI a b)):=by
 refine pB 20 Tryz.func79 ?_;refine(jr)<|(zK (Ca a))<|(zR)<|(zC)<|(zK (Ca b))<|(zR)<|(El)<|(El) ?_
 cases h1:gC a b;rotate_left
 ·exact(aD h1)<|(cI)<|zo [.tmp 4] (hq:=by rw[wI,ut h1])
 refine(aD h1)<|(zN) ?_
 by_cases h2:a=b
 ·exact(aD (bu h1 (show uS a b=true by rw[ly];exact wl h2)))<|(lj)<|zo [.tmp 4] (hq:=by rw[wI,v6 (by rw[h1];decide),ut h2])
 ·exact(aD (bu h1 (show uS a b=false by rw[ly];exact wd h2)))<|(cI)<|zo [.tmp 4] (hq:=by rw[wI,v6 (by rw[h1];decide),v6 h2])
def x7(a b:bB):Int:=M3 a.day b.day
def Jh(a b:bB):PC prog 106 [.ag (ar a),.ag (ar b)] (·=ab (x7 a b)):=by
 refine pB 10 Tryz.func106 ?_;exact(aD @ar.eq_1)<|(zC)<|(zK (AY a.day b.day))<|(zR)<|zo [.tmp 4]
def bB.vE:List AV:=[.int .i64 0,.int .i64 0,.str [],.str [],.str [],.str [],.str [],.str [],.int .i64 0,.int .i64 0,.int .i64 0,.int .i64 0,.int .i64 0,.int .i64 0]
def L5(n:Nat)(h:n<=1000000):kn prog 37 (.int .i64 (n:Int)) (.int .i64 (n:Int))=some (n,14,n,rep bB.vE n):=by
 have q1:(prog.info? 90).map (λi=>(i.size,ble i.bytes 10000))=some (14,true):=by kernel_rfl
 obtain⟨i,hi,e⟩:=Option.map_eq_some_iff.1 q1;have e1:i.size=14:=rc Prod.fst e;have e2:ble i.bytes 10000=true:=rc Prod.snd e;unfold kn;rw[show prog.underlying 37=some (.slice 90) by kernel_rfl];simp only;rw[show di (.int .i64 (n:Int))=some n from rfl,m7,m7,hi,m7,show dm prog 90=some (.agg bB.vE) by simp only[aC];rfl,m7,e1,e2,fc (aa n),fc h];rfl
def sG:∀n,(rep bB.vE n).map SV.a=(be n bB.zero).flatMap ar
 | 0=>rfl
 | n+1=>by rw[rep,b8,sG n,List.replicate_succ,flatMap_cons];rfl
def eL(l:List bB):List bB:=AG (rQ x7) l
def Bb(l:List bB)(hlen:l.length<20):PC prog 105 [an 14 l ar,.fn 106 [] []] (·=an 14 (eL l) ar):=by
 have hst:=Bd 106 x7 Jh (some l.length) l hlen;have hrc:∀(g:Nat->Nat) (l:List bB),mP g (l.flatMap ar)=l.flatMap ar:=λg l=>bp (aE bU l);have hbc:∀(B:Nat) (l:List bB),iI B (l.flatMap ar)=true:=λB l=>bO (aE bU l);have hkc:∀(o:Nat) (l:List bB),(l.flatMap ar).map (aM o)=l.flatMap ar:=λo l=>bx bU o l;refine pB 16 Tryz.func105 ?_;have hcl:=aU cK l
 have hzl:((be l.length bB.zero).flatMap ar).length=l.length*14:=by rw[aU cK,bv]
 refine(zV)<|(aD (cJ (L5 l.length i4) @sG hkc)) ?_
 (repeat refine aG.seq ?_)
 refine aG.mono (Q:=λe st=>e=.normal/\Fg st ⟨[(1,.fn 106 [] []),(5,.buf 0 l.length 14 (some l.length))],16,[.cells (l.flatMap ar)],[]⟩) ?_ ?_
 ·by_cases h0:l.length=0
  ·have hl:l=[]:=t8 h0;subst hl;refine(zV) ?_;exact⟨rfl,zH⟩
  ·have htk:(l.flatMap ar).take (l.length*14)=l.flatMap ar:=ek cK l;have hmin:Nat.min l.length l.length=l.length:=el _;have hdr:((be l.length bB.zero).flatMap ar).drop (l.length*14)=[]:=aW (by rw[hzl];exact aa _);refine(aD (MX h0 hmin htk hzl hcl @aa @JJ hdr @er @append_nil.{0})) ?_;exact⟨rfl,zH⟩
 rintro e st ⟨rfl,hfg⟩;refine aG.fg hfg ?_;clear hfg
 (try change aG _ _ _ _ _)
 have hsl:(eL l).length=l.length:=by unfold eL;exact yv _ _
 refine(zC) ?_;refine zS [0] (cJ hrc hbc hkc) hst ?_;exact(zR)<|(zV)<|zo [.tmp 4] (r:=.sl l.length 14 ((eL l).flatMap ar)) (hw:=.buf rfl (by rw[<-hsl];rw[show AG (rQ x7) l=eL l from rfl,ek cK];exact cu.refl (aE bU _)) (by rw[show AG (rQ x7) l=eL l from rfl,aU cK,hsl];exact aa _)) (hq:=by rw[an,hsl])
def wj(l:List bB)(hlen:l.length<20):PC prog 47 [an 14 l ar] (·=an 14 (eL l) ar):=by
 refine pB 5 Tryz.func47 ?_;exact(jr)<|(zK (Bb l hlen) (hfl:=.inr zr))<|(zR)<|zo [.tmp 2] (r:=an 14 (eL l) ar) (hw:=Wk.refl rfl)
variable{fid:FuncId}{first:List SV}{cap:List SV}
open Go.Proofs.Tryz renaming func104 -> vaa in
open Go.Ev renaming vm -> vab in
open Go.Proofs renaming ar -> vac in
def Ag{l:List (bB)}(p:bB->Bool)(hlen:l.length<=1000000)(hp:∀x∈l,PC prog fid ((first++[.ag (ar x)])++cap) (·=ai (p x)))(hg:bR first=true/\bR cap=true):PC prog 104 [an 14 l ar,.fn fid first cap] (·=ab (fO p l)):=by
 have vad:=@ar.eq_1;exact JL
def wz:∀n,(rep bB.vE n).all jU=true
 | 0=>rfl
 | n+1=>by rw[rep,b7,wz n];rfl
def Bx{p:α->Bool}(h:fO p l ≠ -1):∃(k:Nat) (x:α),fO p l=(k:Int)/\l[k]?=some x/\p x=true/\∀(i:Nat) y,i<k->l[i]?=some y->p y=false:=by
 unfold fO at h ⊢
 cases hf:l.findIdx? p with
 | none=>rw[hf] at h;exact un rfl h
 | some k=>
  rw[List.findIdx?_eq_some_iff_getElem] at hf;obtain⟨hlt,h1,h2⟩:=hf;refine⟨k,l[k],rfl,jp hlt,h1,λi y hi hy=>?_⟩;have:=h2 i hi;rw[jp i4] at hy;cases hy;simpa using this
def By{p:α->Bool}(h:fO p l = -1):∀x∈l,p x=false:=by
 unfold fO at h
 cases hf:l.findIdx? p with
 | none=>
  rw[List.findIdx?_eq_none_iff] at hf;exact hf
 | some k=>rw[hf] at h;simp only at h;omega
def dV(d:bB->Bool)(l:List bB):List bB:=l.filter λx=>!d x
def Fo(d:bB->Bool)(l:List bB):(dV d l).length<=l.length:=List.length_filter_le _ _
def Fl{d:bB->Bool}{l:List bB}(h:∀x∈l,d x=false):dV d l=l:=by
 unfold dV;rw[List.filter_eq_self];intro x hx;rw[h x hx];rfl
def BE{d:bB->Bool}{l:List bB}{j:Nat}{x:bB}(h:l[j]?=some x):dV d (l.take (j+1))=dV d (l.take j)++(if d x=true then [] else [x]):=by
 unfold dV;rw[cM h,List.filter_append];cases hd:d x<;>simp[hd]
def z7(g:FuncId)(c2:List SV)(hg:bR c2=true)(d:bB->Bool)(hp:∀x,PC prog g [.ag (ar x),.ip c2] (·=ai (d x))):
 SC prog 44 [.e0 14,.fn g [] [.ptr 0 0]] [.cells c2] [] (λr S'=>r=.e0 14/\S'=[.cells c2]):=by
 have hidx:=Ag (l:=[]) d (fid:=g) (first:=[]) (cap:=[.ip c2]) ge (λx hx=>hp x) ⟨rfl,rfl⟩;rw[show fO d [] = -1 from rfl] at hidx
 refine OE 42 func44 ?_;refine(jr)<|(zK hidx (hwk:=.cons (.SI 14) (.cons (.fn .nil (.cons (.ptr rfl (cu.refl hg) (bs _)) .nil)) .nil)))<|(zR)<|(w6)<|(zV)<|(zE) ?_;exact KD.of (rs:=[.tmp 4]) rfl rfl zl Vr zd zg
def z8(g:FuncId)(c2:List SV)(hg:bR c2=true)(d:bB->Bool)(hp:∀x,PC prog g [.ag (ar x),.ip c2] (·=ai (d x)))(l:List bB)(hlen:l.length<=100000):
 SC prog 44 [.buf 0 l.length 14 none,.fn g [] [.ptr 1 0]] [.cells (l.flatMap ar),.cells c2] [] (λr S'=>r=.buf 0 (dV d l).length 14 none/\S'=[.cells ((dV d l++be (l.length-(dV d l).length) bB.zero).flatMap ar),.cells c2]):=by
 have hidx:=Ag (l:=l) d (fid:=g) (first:=[]) (cap:=[.ip c2]) i4 (λx hx=>hp x) ⟨rfl,rfl⟩;have hkc:∀(o:Nat) (l:List bB),(l.flatMap ar).map (aM o)=l.flatMap ar:=λo l=>bx bU o l;have hk2:∀o:Nat,c2.map (aM o)=c2:=λo=>bQ hg
 refine Rt 42 func44 ?_;refine(jr)<|(zK hidx (hwk:=.cons (.buf rfl (by rw[ek cK];exact cu.refl (aE bU l)) (by rw[aU cK];exact aa _)) (.cons (.fn .nil (.cons (.ptr rfl (cu.refl hg) (bs _)) .nil)) .nil)))<|(zR) ?_
 by_cases hno:fO d l = -1
 ·have hall:=By hno;rw[hno]
  refine(w6)<|(zV)<|(zE) ?_;exact zP [.tmp 4] (hq:=by (try simp only[eC,bJ]);first | done | (rw[Fl hall,d2,List.replicate_zero,append_nil];first | exact⟨rfl,rfl⟩ | exact⟨trivial,rfl⟩ | exact⟨rfl,trivial⟩ | exact⟨trivial,trivial⟩))
 obtain⟨k,x0,hk,hx0,hd0,hbef⟩:=Bx hno;rw[hk];have hkl:k<l.length:=bq hx0
 refine(aD (show decide ((k:Int) = -1)=false by simp only[wn];omega))<|(zN)<|(zs) ?_;refine aG.r0 ii (me (bA (k:Int) 1 i4)) ?_
 have hst:dV d (l.take (k+1))=l.take k:=by
  rw[BE hx0,ut hd0,append_nil];refine Fl λx hx=>?_;obtain⟨i,hi⟩:=List.mem_iff_getElem?.1 hx
  have hik:i<k:=by
   have:=bq hi;rw[ad] at this;omega
  rw[ds,ut hik] at hi;exact hbef i x hik hi
 (repeat refine aG.seq ?_)
 refine aG.block (aG.loop (λm st=>∃(j i:Nat) (q:List bB),(i<j/\j<=l.length/\q.length=l.length)/\(q.take i=dV d (l.take j)/\q.drop j=l.drop j)/\l.length-j=m/\st=⟨[(0,.buf 0 l.length 14 none),(1,.fn g [] [.ptr 1 0]),(5,qD i),(6,qD j),(1000000,.ptr 0 0),(1000001,.ptr 1 0)],42,[.cells (q.flatMap ar),.cells c2],[]⟩) (l.length-(k+1)) (cf @fF) ⟨k+1,k,l,⟨cd _,hkl,rfl⟩,⟨hst.symm,rfl⟩,rfl,rfl⟩ (by rintro m st ⟨j,i,q,_,_,_,rfl⟩;rfl) ?_);rintro m st ⟨j,i,q,⟨hij,hjl,hql⟩,⟨htk,hdr⟩,rfl,rfl⟩
 have hcl:(q.flatMap ar).length=l.length*14:=by rw[aU cK,hql]
 refine(zV) ?_;by_cases hlt:j<l.length;rotate_left
 ·rw[show decide ((j:Int)<(l.length:Int))=false by simp only[wn];omega]
  obtain rfl:j=l.length:=by omega
  rw[bb] at htk;refine(gg) ?_
  have hkl2:(dV d l).length=i:=by rw[<-htk,ad];omega
  have hrest:(q.flatMap ar).take (i*14)++((rep bB.vE (l.length-i)).map SV.a++(q.flatMap ar).drop (i*14+(l.length-i)*14))=(dV d l++be (l.length-(dV d l).length) bB.zero).flatMap ar:=by
   rw[hkl2,sG,gN cK,htk,aW (by rw[hcl];omega),append_nil,bc]
  refine(zs) ?_;refine aG.r0 ii (by simp only[cL,bI,an,aC,m7,m6,↓reduceIte,a8,Nat.reduceAdd,Nat.reduceMul,Nat.reduceLeDiff,Nat.reduceLT,ak,au,bl,KJ (show i<=l.length by omega),show ¬(l.length-i=0) by omega,show i*14+(l.length-i)*14<=l.length*14 by omega,hcl,show(rep [AV.int IntKind.i64 0,.int .i64 0,.str [],.str [],.str [],.str [],.str [],.str [],.int .i64 0,.int .i64 0,.int .i64 0,.int .i64 0,.int .i64 0,.int .i64 0] (l.length-i))=rep bB.vE (l.length-i) from rfl,wz,hrest];first | done | rfl) ?_;refine(zs) ?_;refine aG.r0 ii (me (bu (RJ (show i<=l.length by omega)) @ce)) ?_;refine(zE) ?_;exact KD.of (rs:=[.tmp 4]) rfl rfl zl (by (try simp only[eC,bJ]);first | done | (rw[hkl2];first | exact⟨rfl,rfl⟩ | exact⟨trivial,rfl⟩ | exact⟨rfl,trivial⟩ | exact⟨trivial,trivial⟩)) zd zg
 rw[show decide ((j:Int)<(l.length:Int))=true by simp only[wp];omega];obtain⟨x,hx⟩:∃x,l[j]?=some x:=⟨l[j],jp hlt⟩
 have hqx:q[j]?=some x:=by
  have:(q.drop j)[0]?=(l.drop j)[0]?:=by rw[hdr]
  rw[cn,cn,c4] at this;rw[this,hx]
 have hdr2:q.drop (j+1)=l.drop (j+1):=by
  have:=rc (List.drop 1) hdr;rw[d9,d9] at this;exact this
 have hsn:=BE (d:=d) hx;have ax:((q.flatMap ar).drop (j*14)).take 14=ar x:=aQ (e:=14) (enc:=ar) gc hqx;rw[dw] at ax;have hpx:=hp x;rw[dw] at hpx
 refine(gA)<|(aD (uP hlt hcl (show j*14+14<=l.length*14 by omega) ax hkc hk2))<|(zC)<|(zK hpx (hwk:=.cons (.ag zr) (.cons (.ptr rfl (cu.refl hg) (bs _)) .nil))) ?_
 cases hd:d x
 ·have hil:i<q.length:=by omega
  have s1:=rh (enc:=ar) cK (l:=q) (i:=i) x hil;rw[dw] at s1;simp only[cons_append,nil_append] at s1;rw[hd,v6 g9] at hsn
  refine(zR)<|(zY)<|(aD (gm (show i<l.length by omega) hcl (show i*14+14<=l.length*14 by omega) s1))<|(zs) ?_;refine aG.r0 ii (me (bA (i:Int) 1 i4)) ?_;refine(zs) ?_;refine aG.r0 ii (me (bA (j:Int) 1 i4)) ?_;refine⟨l.length-(j+1),_,by omega,(cf @fF),j+1,i+1,q.set i x,⟨by omega,by omega,by rw[ba,hql]⟩,⟨?_,?_⟩,rfl,rfl⟩
  ·rw[hsn,<-htk,bd,ut hil,d4,ad,ap i4,ct,Nat.min_eq_right i4,show i+1-i=1 by omega];rfl
  ·rw[List.drop_set,ut i4];exact hdr2
 ·rw[hd,ut rfl,append_nil] at hsn
  refine(zR)<|(zN)<|(zs) ?_;refine aG.r0 ii (me (bA (j:Int) 1 i4)) ?_;exact⟨l.length-(j+1),_,by omega,(cf @fF),j+1,i,q,⟨by omega,by omega,hql⟩,⟨by rw[hsn,htk],hdr2⟩,rfl,rfl⟩
def IQ{j:Nat}(h:i+j<=1000000):mF prog 3 210 (.int .i64 ((i:Int)+(j:Int)))=some (.int .u64 ((i+j:Nat):Int)):=by
 unfold mF;rw[show prog.underlying 3=some (.int .i64) by kernel_rfl,show prog.underlying 210=some (.int .u64) by kernel_rfl]
 have:dX .u64 ((i:Int)+(j:Int))=((i+j:Nat):Int):=by rw[gY];simp[IntKind.wrap,IntKind.bits,IntKind.signed];omega
 simp only[this]
def IS{s:Nat}:dk prog .shr 210 (.int .u64 (s:Int)) (.int .u64 1)=some (.int .u64 ((s/2:Nat):Int)):=by
 have:((s:Int)).fdiv 2=((s/2:Nat):Int):=by
  rw[Int.fdiv_eq_ediv_of_nonneg _ g9];omega
 show some (AV.int .u64 (((s:Int)).fdiv 2))=_;rw[this]
def IT{s:Nat}(h:s<=1000000):mF prog 210 3 (.int .u64 (s:Int))=some (.int .i64 (s:Int)):=by
 unfold mF;rw[show prog.underlying 3=some (.int .i64) by kernel_rfl,show prog.underlying 210=some (.int .u64) by kernel_rfl]
 have:dX .i64 (s:Int)=(s:Int):=by rw[gY];simp[IntKind.wrap,IntKind.bits,IntKind.signed];omega
 simp only[this]
def dT(p:aq):ae p=[ah p.name,ah p.kind,ah p.br,ah p.slot,ab p.made,ab p.since,ai p.cN,an 2 p.props aJ,ab p.l1,ab p.l2,ab p.l3,ab p.l4,ab p.l5,ab p.l6]:=rfl
def pn(p:bN):aJ p=[ah p.key,ah p.value]:=rfl
def oz(l:List aq)(k:List Nat)(pos:Nat):Bool:=match l[pos]? with
 | some x=>decide (aq.name x=k)
 | none=>false
structure Be (l:List aq) (k:List Nat) (pos:Nat):Prop where
 le:pos<=l.length
 ju:∀(a:Nat) (x:aq),l[a]?=some x->(gC (aq.name x) k=true↔a<pos)
variable{p:Prop}
def Q4 (h:p:=by
  obtain⟨hpos,hpt⟩:=hpart
  refine pB 49 vah ?_;refine(om)<|(zV) ?_
  (repeat refine aG.seq ?_)
  refine aG.block (aG.loop (λm st=>∃i j:Nat,(i<=pos/\pos<=j/\j<=l.length)/\j-i=m/\st=⟨[(0,an vai l vaj),(1,ah k),(2,.fn g [] cap),(8,qD l.length),(9,qD i),(10,qD j)],49,[],[]⟩) l.length zH ⟨0,l.length,⟨Nat.zero_le _,hpos,Nat.le_refl _⟩,Nat.sub_zero _,rfl⟩ (by rintro m st ⟨i,j,_,_,rfl⟩;rfl) ?_);rintro m st ⟨i,j,⟨hip,hpj,hjl⟩,rfl,rfl⟩;refine(zV) ?_;by_cases hij:i<j;rotate_left
  ·rw[show decide ((i:Int)<(j:Int))=false by simp only[wn];((try simp only[vai] at *)<;>omega)];refine(gg) ?_
   obtain rfl:i=pos:=by ((try simp only[vai] at *)<;>omega)
   by_cases hil:i<l.length
   ·obtain⟨x,hx⟩:∃x,l[i]?=some x:=⟨l[i],jp hil⟩
    have hl:gC (vak x) k=false:=by
     cases h:gC (vak x) k with
     | false=>rfl
     | true=>exact un ((hpt i x hx).1 h) (Nat.lt_irrefl _)
    have ax:((l.flatMap vaj).drop (i*vai)).take vai=vaj x:=aQ (e:=vai) (enc:=vaj) gc hx;simp only[vai] at ax;have hpx:=hp x (List.mem_of_getElem? hx)
    have hfd:vam l k i=decide (vak x=k):=by unfold vam;rw[hx]
    have hc0:decide (wI (vak x) k=0)=decide (vak x=k):=by
     unfold wI;rw[hl,v6 g9];by_cases e:vak x=k
     ·rw[ut e,wl e];rfl
     ·rw[v6 e,wd e];rfl
    rw[van] at ax hpx
    exact(e9 (cJ (show decide ((i:Int)<(l.length:Int))=true by simp only[wp];((try simp only[vai] at *)<;>omega)) hil ax))<|(zK hpx (hwk:=cu.refl (kT rfl hcap)))<|(cP hc0)<|jZ [.tmp 6,.tmp 7] (hq:=by rw[hfd])
   ·have hfd:vam l k i=false:=by unfold vam;rw[List.getElem?_eq_none (by ((try simp only[vai] at *)<;>omega))]
    exact(aD (show decide ((i:Int)<(l.length:Int))=false by simp only[wn];((try simp only[vai] at *)<;>omega)))<|jZ [.tmp 6,.tmp 7] (hq:=by rw[hfd])
  rw[show decide ((i:Int)<(j:Int))=true by simp only[wp];((try simp only[vai] at *)<;>omega)];obtain⟨h,hh⟩:∃h,h=(i+j)/2:=⟨_,rfl⟩
  have hl2:h<l.length:=by ((try simp only[vai] at *)<;>omega)
  obtain⟨x,hx⟩:∃x,l[h]?=some x:=⟨l[h],jp hl2⟩;have ax:((l.flatMap vaj).drop (h*vai)).take vai=vaj x:=aQ (e:=vai) (enc:=vaj) gc hx;simp only[vai] at ax;have hpx:=hp x (List.mem_of_getElem? hx);have hpth:=hpt h x hx;rw[van] at ax hpx
  refine(gA)<|(zs) ?_;refine aG.r0 ii (me (gm (bA (i:Int) (j:Int) (by ((try simp only[vai] at *)<;>omega))) (IQ (show i+j<=1000000 by ((try simp only[vai] at *)<;>omega))) @IS (IT (show(i+j)/2<=1000000 by ((try simp only[vai] at *)<;>omega))))) ?_
  rw[<-hh]
  refine(e9 (bu hl2 ax))<|(zK hpx (hwk:=cu.refl (kT rfl hcap))) ?_
  have hc:decide (wI (vak x) k<0)=gC (vak x) k:=by
   unfold wI;cases h:gC (vak x) k
   ·rw[v6 g9];split<;>rfl
   ·rw[ut rfl];rfl
  cases hlt:gC (vak x) k
  ·have hge:pos<=h:=by
    rcases Nat.lt_or_ge h pos with hq | hq
    ·have:=hpth.2 hq;rw[hlt] at this;cases this
    ·exact hq
   refine(cP (bu hc hlt))<|(lj) ?_;exact⟨h-i,_,by ((try simp only[vai] at *)<;>omega),zH,i,h,⟨hip,hge,by ((try simp only[vai] at *)<;>omega)⟩,rfl,rfl⟩
  ·have hgt:h<pos:=hpth.1 hlt
   refine(cP (bu hc hlt))<|(zY)<|(zs) ?_;refine aG.r0 ii (me (bA (h:Int) 1 (by ((try simp only[vai] at *)<;>omega)))) ?_;exact⟨j-(h+1),_,by ((try simp only[vai] at *)<;>omega),(Fg.less (Us @fF) (Ut @fF)),h+1,j,⟨by ((try simp only[vai] at *)<;>omega),hpj,hjl⟩,rfl,rfl⟩):p:=h
open Go.Proofs.Tryz renaming func193 -> vah in
open Go.Ev renaming vm -> vai in
open Go.Proofs renaming ae -> vaj,oz -> vam in
open Go.Proofs.aq renaming name -> vak in
def Gq(l:List aq)(hlen:l.length<=100000){g:FuncId}{cap:List SV}(hcap:bR cap=true)(k:List Nat)(pos:Nat)(hp:∀x∈l,PC prog g ([.ag (ae x),ah k]++cap) (·=ab (wI (aq.name x) k)))(hpart:Be l k pos):
 PC prog 193 [an 14 l ae,ah k,.fn g [] cap] (·=.cx [qD pos,ai (oz l k pos)]):=by
 have van:=@dT;exact Q4
def rj(l:List bN)(k:List Nat)(pos:Nat):Bool:=match l[pos]? with
 | some x=>decide (bN.key x=k)
 | none=>false
structure Bf (l:List bN) (k:List Nat) (pos:Nat):Prop where
 le:pos<=l.length
 ju:∀(a:Nat) (x:bN),l[a]?=some x->(gC (bN.key x) k=true↔a<pos)
open Go.Proofs.Tryz renaming func197 -> vah in
open Go.Ev renaming J0 -> vai in
open Go.Proofs renaming aJ -> vaj,rj -> vam in
open Go.Proofs.bN renaming key -> vak in
def Gr(l:List bN)(hlen:l.length<=100000){g:FuncId}{cap:List SV}(hcap:bR cap=true)(k:List Nat)(pos:Nat)(hp:∀x∈l,PC prog g ([.ag (aJ x),ah k]++cap) (·=ab (wI (bN.key x) k)))(hpart:Bf l k pos):
 PC prog 197 [an 2 l aJ,ah k,.fn g [] cap] (·=.cx [qD pos,ai (rj l k pos)]):=by
 have van:=@pn;exact Q4
open Go.Ev Go.Lib
def Ka(Z:List AV):∀m,(rep Z m).length=m*Z.length
 | 0=>by rw[rep,i5,bi]
 | m+1=>by rw[rep,li,Ka Z m,cl,c0]
def Gb{Z:List AV}(hZ:Z.all jU=true):∀m,(rep Z m).all jU=true
 | 0=>rfl
 | m+1=>by rw[rep,b7,hZ,Gb hZ m];rfl
def FG:∀{l:List AV},l.all jU=true->(l.map SV.a).all eB=true
 | [],_=>rfl
 | a::l,h=>by
  rw[dt,ac] at h;rw[bw,dt,FG h.2,Bool.and_true];exact h.1
def FF(o:Nat):∀l:List AV,(l.map SV.a).map (aM o)=l.map SV.a
 | []=>rfl
 | a::l=>by rw[bw,bw,FF o l];rfl
def D4:Cl prog 263:=by
 intro w a b la ca lb cb tA tB kA kB h1 h2 h3 h4 h5 h6
 rw[run_callFunc_extern Tryz.func263 zW zW zW (e:=Extern.SlicesOverlaps.overlaps #[44,44] #[4]) zW,
  Lib.run_overlaps_apart w 44 4 56 zW 14 (λw=>bT zW) a b la ca lb cb h1 tA tB kA kB h2 h3 h4 h5 h6]
 rfl
def A0(x:aq):SC prog 195 [.e0 14,qD 0,.buf 0 1 14 (some 1)] [.cells (ae x)] [0] (λr S'=>r=an 14 [x] ae/\S'=[.gone]):=by
 refine OE 95 Tryz.func195 ?_;have hkc:=λo:Nat=>bQ (o:=o) (dx x);have hon:(ae x).all eB=true:=rfl;rw[dT] at hkc hon ⊢
 refine(om)<|(om)<|(lj)<|(w6)<|(aD (bu hkc hon))<|zA [(6,.buf 1 1 14 none)] [.gone,.cells (ae x)] (cf @dT) ?_;refine zZ [(6,an 14 [x] ae)] 1 rfl ⟨.inr (.buf rfl (by rw[flatMap_cons,flatMap_nil,append_nil];exact cu.refl (dx x)) (by show 1*14<=14;decide)),trivial⟩<|zA [(6,an 14 [x] ae)] [.gone] zH<|(zE) ?_;exact zP [.tmp 6]
def Q5 (h:p:=by
  have hf:∀l:List vao,(l.flatMap vap).length=l.length*vaq:=aU (enc:=vap) (e:=vaq) gc;simp only[vaq] at hf
  have h1:((l.flatMap vap++A).take ((i+1)*vaq)).length=(i+1)*vaq:=by
   rw[List.length_take,li,hf];((try simp only[vaq] at *)<;>omega)
  simp only[vaq] at h1
  have h2:((l.flatMap vap++A).take ((i+1)*vaq)).take (i*vaq)=(l.take i).flatMap vap:=by
   rw[List.take_take,Nat.min_eq_left (by ((try simp only[vaq] at *)<;>omega)),List.take_append_of_le_length (by rw[hf];((try simp only[vaq] at *)<;>omega)),gN (enc:=vap) (e:=vaq) gc]
  simp only[vaq] at h2;generalize hB:(l.flatMap vap++A).take ((i+1)*vaq)=B at h1 h2 ⊢;generalize (l.flatMap vap++A).drop ((i+1)*vaq+(l.length-i)*vaq)=R
  have e1:(B++((l.drop i).flatMap vap++R)).take (i*vaq)=(l.take i).flatMap vap:=by rw[List.take_append_of_le_length (by rw[h1];((try simp only[vaq] at *)<;>omega)),h2]
  simp only[vaq] at e1
  have e2:(B++((l.drop i).flatMap vap++R)).drop (i*vaq+vaq)=(l.drop i).flatMap vap++R:=by rw[List.drop_append_of_le_length (by rw[h1];((try simp only[vaq] at *)<;>omega)),List.drop_of_length_le (by rw[h1];((try simp only[vaq] at *)<;>omega)),List.nil_append]
  simp only[vaq] at e2;rw[e1,e2]
  have h3:((l.take i).flatMap vap++(vap x++(l.drop i).flatMap vap)).length=(l.length+1)*vaq:=by
   rw[li,li,hf,hf,show(vap x).length=vaq from rfl,List.length_take,List.length_drop,Nat.min_eq_left (by ((try simp only[vaq] at *)<;>omega))];((try simp only[vaq] at *)<;>omega)
  simp only[vaq] at h3
  rw[<-List.append_assoc (vap x),<-List.append_assoc,List.take_append_of_le_length (by rw[h3];exact Nat.le_refl _),List.take_of_length_le (by rw[h3];exact Nat.le_refl _),List.flatMap_append,List.flatMap_cons]):p:=h
open Go.Proofs renaming aq -> vao,ae -> vap in
open Go.Ev renaming vm -> vaq in
def Pz(l:List aq)(i:Nat)(x:aq)(hi:i<l.length)(A:List SV):
 (((l.flatMap ae++A).take ((i+1)*14)++((l.drop i).flatMap ae++(l.flatMap ae++A).drop ((i+1)*14+(l.length-i)*14))).take (i*14)++(ae x++((l.flatMap ae++A).take ((i+1)*14)++((l.drop i).flatMap ae++(l.flatMap ae++A).drop ((i+1)*14+(l.length-i)*14))).drop (i*14+14))).take ((l.length+1)*14)=(l.take i++x::l.drop i).flatMap ae:=by
 exact Q5
abbrev U6:List AV:=[.str [],.str [],.str [],.str [],.int .i64 0,.int .i64 0,.bool false,.slice none 0 0 (some 0),.int .i64 0,.int .i64 0,.int .i64 0,.int .i64 0,.int .i64 0,.int .i64 0]
abbrev U7:List AV:=[.str [],.str []]
def Q6 (h:p:=by
  refine Rt 95 var ?_;have hkl:=λo:Nat=>bx (enc:=vas) vat o l;have hkc:=λo:Nat=>bQ (o:=o) (vat x);have hon:(vas x).all eB=true:=rfl;have hxl:(vas x).length=vau:=rfl;simp only[vau] at hxl;have hxt:(vas x).take vau=vas x:=rfl;simp only[vau] at hxt;have hcl:(l.flatMap vas).length=l.length*vau:=aU (enc:=vas) (e:=vau) gc l;simp only[vau] at hcl;have htl:(l.flatMap vas).take (l.length*vau)=l.flatMap vas:=List.take_of_length_le (by rw[hcl];exact Nat.le_refl _);simp only[vau] at htl;have hc1:((1:Nat):Int)=1:=rfl
  refine(zV)<|(aD (KI hi))<|(aD hc1)<|(aD hc1)<|(lj) ?_
  by_cases hin:i=l.length
  ·subst hin
   refine(aD (show decide ((l.length:Int)=(l.length:Int))=true by simp))<|(zY) ?_
   have hka:∀o:Nat,(l.flatMap vas++vas x).map (aM o)=l.flatMap vas++vas x:=λo=>by rw[List.map_append,hkl,hkc]
   refine(aD (Mj hkc hon hxl hxt hcl htl hka @Nat.le_refl (show l.length<=1000000 by ((try simp only[vau] at *)<;>omega))))<|zA [(6,.buf 0 (l.length+1) vau none)] [.cells (l.flatMap vas++vas x),.gone] zH ?_
   have hq:l.flatMap vas++vas x=(l.take l.length++x::l.drop l.length).flatMap vas:=by rw[List.take_length,List.drop_length,List.flatMap_append,List.flatMap_cons,List.flatMap_nil,List.append_nil]
   have hqn:(l.take l.length++x::l.drop l.length).length=l.length+1:=by rw[List.take_length,List.drop_length,li,i7,i5]
   rw[hq]
   refine zZ [(6,an vau (l.take l.length++x::l.drop l.length) vas)] 0 rfl ⟨.inr (by rw[pP,hqn];exact .buf rfl (by rw[<-hqn,ek (enc:=vas) (e:=vau) gc];exact cu.refl (aE vat _)) (by rw[aU (enc:=vas) (e:=vau) gc,hqn];exact Nat.le_refl _)),trivial⟩<|(zE) ?_;exact zP [.tmp 6]
  have hlt:i<l.length:=by ((try simp only[vau] at *)<;>omega)
  refine(aD (show decide ((i:Int)=(l.length:Int))=false by simp only[wn];((try simp only[vau] at *)<;>omega)))<|(zN) ?_;refine aG.It 0 g9 rfl rfl ?_
  intro cap hcap;obtain⟨A,hA⟩:∃A,A=List.replicate (cap*vau-(l.flatMap vas).length) SV.any:=⟨_,rfl⟩;rw[<-hA]
  have hAl:A.length=cap*vau-l.length*vau:=by rw[hA,List.length_replicate,hcl]
  simp only[vau] at hAl;by_cases hroom:cap<l.length+1
  ·obtain rfl:cap=l.length:=by ((try simp only[vau] at *)<;>omega)
   obtain rfl:A=[]:=t8 (by rw[hAl];((try simp only[vau] at *)<;>omega));rw[List.append_nil];clear hA hAl
   refine(aD (cJ hc1 (Ct (show -9223372036854775808<=(l.length:Int)+1/\(l.length:Int)+1<=9223372036854775807 from⟨by ((try simp only[vau] at *)<;>omega),by ((try simp only[vau] at *)<;>omega)⟩)) (show decide ((l.length:Int)<(l.length:Int)+1)=true by simp only[wp];((try simp only[vau] at *)<;>omega))))<|(zY) ?_
   obtain⟨m,hm⟩:∃m,m=l.length+1-i:=⟨_,rfl⟩;obtain⟨R,hR⟩:∃R,R=(rep vav m).map SV.a:=⟨_,rfl⟩
   have hRl:R.length=m*vau:=by rw[hR,List.length_map,Ka];rfl
   simp only[vau] at hRl
   have hRo:R.all eB=true:=by rw[hR];exact FG (Gb rfl m)
   have hRk:∀o:Nat,R.map (aM o)=R:=λo=>by rw[hR];exact FF o _
   obtain⟨c1,hc1e⟩:∃c1,c1=(l.flatMap vas).take (i*vau)++R:=⟨_,rfl⟩
   have hc1l:c1.length=(l.length+1)*vau:=by rw[hc1e,li,List.length_take,hcl,hRl,Nat.min_eq_left (by ((try simp only[vau] at *)<;>omega)),hm];((try simp only[vau] at *)<;>omega)
   simp only[vau] at hc1l
   have hc1k:∀o:Nat,c1.map (aM o)=c1:=λo=>by rw[hc1e,List.map_append,hRk,List.map_take,hkl]
   refine(aD (bu (Mj hc1 (RJ hi) (Ct (show -9223372036854775808<=(l.length:Int)+1/\(l.length:Int)+1<=9223372036854775807 from⟨by ((try simp only[vau] at *)<;>omega),by ((try simp only[vau] at *)<;>omega)⟩)) (QZ (show -9223372036854775808<=(l.length:Int)+1-(i:Int)/\(l.length:Int)+1-(i:Int)<=9223372036854775807 from⟨by ((try simp only[vau] at *)<;>omega),by ((try simp only[vau] at *)<;>omega)⟩)) (show((l.length:Int)+1-(i:Int))=(m:Int) by ((try simp only[vau] at *)<;>omega)) (Eq.symm hR) hRo @Nat.sub_zero (show m<=1000000 by ((try simp only[vau] at *)<;>omega))) (MX (show ¬m=0 by ((try simp only[vau] at *)<;>omega)) (show i<=1000000 by ((try simp only[vau] at *)<;>omega)) hcl (show i*vau<=l.length*vau by ((try simp only[vau] at *)<;>omega)) (show l.length<l.length+1 by ((try simp only[vau] at *)<;>omega)) (show i+m=l.length+1 by ((try simp only[vau] at *)<;>omega)) (Eq.symm hc1e) hc1k hkl hkc))) ?_;obtain⟨c2,hc2e⟩:∃c2,c2=c1.take (i*vau)++(vas x++c1.drop (i*vau+vau)):=⟨_,rfl⟩
   have hc2l:c2.length=(l.length+1)*vau:=by rw[hc2e,li,li,List.length_take,List.length_drop,hc1l,hxl];((try simp only[vau] at *)<;>omega)
   simp only[vau] at hc2l;refine(aD (TL (KI (show i<=l.length+1 by ((try simp only[vau] at *)<;>omega))) hxl hxt (show Nat.min 1 (l.length+1-i)=1 by simp only[Nat.min_def];rw[ut (by ((try simp only[vau] at *)<;>omega))]) hc1l (show i*vau+vau<=(l.length+1)*vau by ((try simp only[vau] at *)<;>omega)) hon (Eq.symm hc2e))) ?_
   have hdr:((l.flatMap vas).drop (i*vau)).take ((l.length-i)*vau)=(l.drop i).flatMap vas:=by
    rw[mI (enc:=vas) (e:=vau) gc,List.take_of_length_le];rw[aU (enc:=vas) (e:=vau) gc,List.length_drop];exact Nat.le_refl _
   simp only[vau] at hdr
   have hdl:((l.drop i).flatMap vas).length=(l.length-i)*vau:=by rw[aU (enc:=vas) (e:=vau) gc,List.length_drop]
   simp only[vau] at hdl;have hdt:((l.drop i).flatMap vas).take ((l.length-i)*vau)=(l.drop i).flatMap vas:=List.take_of_length_le (by rw[hdl];exact Nat.le_refl _);simp only[vau] at hdt;have hdo:((l.drop i).flatMap vas).all eB=true:=vaw (l.drop i);obtain⟨c3,hc3e⟩:∃c3,c3=c2.take ((i+1)*vau)++((l.drop i).flatMap vas++c2.drop ((i+1)*vau+(l.length-i)*vau)):=⟨_,rfl⟩
   have hfin:c3=(l.take i++x::l.drop i).flatMap vas:=by
    have e0:c1.take (i*vau)=(l.take i).flatMap vas:=by
     rw[hc1e,List.take_append_of_le_length (by rw[List.length_take,hcl];((try simp only[vau] at *)<;>omega)),List.take_take,Nat.min_self,gN (enc:=vas) (e:=vau) gc]
    simp only[vau] at e0
    have e1:((l.take i).flatMap vas++vas x).length=(i+1)*vau:=by
     rw[li,aU (enc:=vas) (e:=vau) gc,hxl,List.length_take,Nat.min_eq_left hi];((try simp only[vau] at *)<;>omega)
    simp only[vau] at e1;rw[hc3e,show c2.drop ((i+1)*vau+(l.length-i)*vau)=[] from List.drop_of_length_le (by rw[hc2l];((try simp only[vau] at *)<;>omega)),List.append_nil,hc2e,e0,<-List.append_assoc,List.take_append_of_le_length (by rw[e1];exact Nat.le_refl _),List.take_of_length_le (by rw[e1];exact Nat.le_refl _),List.flatMap_append,List.flatMap_cons,List.append_assoc]
   refine(zs) ?_;refine nh [0,0,0,6,15,0,0,96,255] ?_
   (repeat (first | refine SD.r ii rfl ii ii (me (gm (bA (i:Int) 1 (by ((try simp only[vau] at *)<;>omega))) (C7) (KI (show i+1<=l.length+1 by ((try simp only[vau] at *)<;>omega))) (KI hi))) ?_ | refine SD.s ii rfl ii ii ?_ | fail))
   refine SD.ed ii rfl ii rfl rfl ii (me (bu (Mj hcl hc2l (show i*vau+(l.length-i)*vau<=l.length*vau by ((try simp only[vau] at *)<;>omega)) (show Nat.min (l.length-i) (l.length+1-(i+1))=l.length-i by simp only[Nat.min_def];split<;>((try simp only[vau] at *)<;>omega)) (show ¬(l.length-i=0) by ((try simp only[vau] at *)<;>omega)) (show(i+1)*vau+(l.length-i)*vau<=(l.length+1)*vau by ((try simp only[vau] at *)<;>omega)) hdr hdl hdt) (cJ hdo @Nat.le_refl (Eq.symm hc3e)))) ?_;refine(zM)<|(zV) ?_
   have hqn:(l.take i++x::l.drop i).length=l.length+1:=by rw[li,i7,List.length_take,List.length_drop,Nat.min_eq_left hi];((try simp only[vau] at *)<;>omega)
   rw[hfin]
   refine zA [(6,.buf 2 (l.length+1) vau none)] [.gone,.gone,.cells ((l.take i++x::l.drop i).flatMap vas)] zH<|zZ [(6,an vau (l.take i++x::l.drop i) vas)] 2 rfl ⟨.inr (by rw[pP,hqn];exact .buf rfl (by rw[<-hqn,ek (enc:=vas) (e:=vau) gc];exact cu.refl (aE vat _)) (by rw[aU (enc:=vas) (e:=vau) gc,hqn];exact Nat.le_refl _)),trivial⟩<|zA [(6,an vau (l.take i++x::l.drop i) vas)] [.gone,.gone] zH<|(zE) ?_;exact zP [.tmp 6]
  have hcap2:l.length+1<=cap:=by ((try simp only[vau] at *)<;>omega)
  have hXl:(l.flatMap vas++A).length=cap*vau:=by rw[li,hcl,hAl];((try simp only[vau] at *)<;>omega)
  simp only[vau] at hXl;have hnn:(-9223372036854775808:Int)<=(l.length:Int)+1/\(l.length:Int)+1<=9223372036854775807:=⟨by ((try simp only[vau] at *)<;>omega),by ((try simp only[vau] at *)<;>omega)⟩
  refine(aD (cJ hc1 (Ct hnn) (show decide ((cap:Int)<(l.length:Int)+1)=false by simp only[wn];((try simp only[vau] at *)<;>omega))))<|(zN) ?_
  have hbt:cQ l.length (some cap) none (some (.int .i64 ((l.length+1:Nat):Int))) none=some (0,l.length+1,some cap):=by
   unfold cQ oC pY;simp only[oL,m7,fc hcap2,Bool.or_true,ak]
  refine(zs) ?_;refine aG.r0 ii (me (gm hc1 (Ct hnn) (C7) hbt)) ?_;have hii:(-9223372036854775808:Int)<=(i:Int)+1/\(i:Int)+1<=9223372036854775807:=⟨by ((try simp only[vau] at *)<;>omega),by ((try simp only[vau] at *)<;>omega)⟩
  refine(zs) ?_;refine aG.Rk ii (me (lk hc1 (Ct hii) (C7) (KI (show i+1<=l.length+1 by ((try simp only[vau] at *)<;>omega))) @Nat.sub_zero)) ?_;refine aL.Vl vax ii rfl rfl ii rfl zc rfl rfl rfl rfl g9 g9 (by ((try simp only[vau] at *)<;>omega)) (by rw[hXl];((try simp only[vau] at *)<;>omega)) ?_;refine(zR)<|(zY) ?_
  have hdr:(((l.flatMap vas++A).drop (i*vau)).take ((l.length+1-i)*vau)).take ((l.length-i)*vau)=(l.drop i).flatMap vas:=by
   rw[List.take_take,Nat.min_eq_left (by ((try simp only[vau] at *)<;>omega)),List.drop_append_of_le_length (by rw[hcl];((try simp only[vau] at *)<;>omega)),mI (enc:=vas) (e:=vau) gc,List.take_append_of_le_length (by rw[aU (enc:=vas) (e:=vau) gc,List.length_drop];exact Nat.le_refl _),List.take_of_length_le];rw[aU (enc:=vas) (e:=vau) gc,List.length_drop];exact Nat.le_refl _
  simp only[vau] at hdr
  have hdl:(((l.flatMap vas++A).drop (i*vau)).take ((l.length+1-i)*vau)).length=(l.length+1-i)*vau:=by
   rw[List.length_take,List.length_drop,hXl,Nat.min_eq_left (by ((try simp only[vau] at *)<;>omega))]
  simp only[vau] at hdl;have hdo:((l.drop i).flatMap vas).all eB=true:=vaw (l.drop i);obtain⟨w1,hw1⟩:∃w1,w1=(l.flatMap vas++A).take ((i+1)*vau)++((l.drop i).flatMap vas++(l.flatMap vas++A).drop ((i+1)*vau+(l.length-i)*vau)):=⟨_,rfl⟩
  have hw1l:w1.length=cap*vau:=by rw[hw1,li,li,List.length_take,List.length_drop,hXl,aU (enc:=vas) (e:=vau) gc,List.length_drop,Nat.min_eq_left (by ((try simp only[vau] at *)<;>omega))];((try simp only[vau] at *)<;>omega)
  simp only[vau] at hw1l;obtain⟨w2,hw2⟩:∃w2,w2=w1.take (i*vau)++(vas x++w1.drop (i*vau+vau)):=⟨_,rfl⟩
  have hw2l:w2.length=cap*vau:=by rw[hw2,li,li,List.length_take,List.length_drop,hw1l,hxl,Nat.min_eq_left (by ((try simp only[vau] at *)<;>omega))];((try simp only[vau] at *)<;>omega)
  simp only[vau] at hw2l
  have hfin:w2.take ((l.length+1)*vau)=(l.take i++x::l.drop i).flatMap vas:=by rw[hw2,hw1];exact vay l i x hlt A
  simp only[vau] at hfin;refine(zs) ?_;refine nh [0,0,0,6,15,0,0,96,255] ?_
  (repeat (first | refine SD.r ii rfl ii ii (me (lk (Ct hii) (C7) (KI (show i+1<=l.length+1 by ((try simp only[vau] at *)<;>omega))) (KI (show i<=l.length+1 by ((try simp only[vau] at *)<;>omega))) @Nat.sub_zero)) ?_ | refine SD.s ii rfl ii ii ?_ | fail))
  refine SD.ed ii rfl ii rfl rfl ii (me (bu (Mj hXl hcl (show i*vau+(l.length+1-i)*vau<=cap*vau by ((try simp only[vau] at *)<;>omega)) (show Nat.min (l.length+1-i) (l.length+1-(i+1))=l.length-i by simp only[Nat.min_def];split<;>((try simp only[vau] at *)<;>omega)) (show ¬(l.length-i=0) by ((try simp only[vau] at *)<;>omega)) (show(i+1)*vau+(l.length-i)*vau<=cap*vau by ((try simp only[vau] at *)<;>omega)) hdr hdl (show(l.length-i)*vau<=(l.length+1-i)*vau by ((try simp only[vau] at *)<;>omega))) (cJ hdo @Nat.le_refl (Eq.symm hw1)))) ?_;refine(zM)<|(aD (TL (KI (show i<=l.length+1 by ((try simp only[vau] at *)<;>omega))) hxl hxt (show Nat.min 1 (l.length+1-i)=1 by simp only[Nat.min_def];rw[ut (by ((try simp only[vau] at *)<;>omega))]) hw1l (show i*vau+vau<=cap*vau by ((try simp only[vau] at *)<;>omega)) hon (Eq.symm hw2)))<|(zV) ?_
  have hqn:(l.take i++x::l.drop i).length=l.length+1:=by rw[li,i7,List.length_take,List.length_drop,Nat.min_eq_left hi];((try simp only[vau] at *)<;>omega)
  refine zA [(6,.buf 0 (l.length+1) vau (some cap))] [.cells w2,.gone] zH<|zZ [(6,an vau (l.take i++x::l.drop i) vas)] 0 rfl ⟨.inr (by rw[pP,hqn];exact .buf rfl (by rw[hfin];exact cu.refl (aE vat _)) (by rw[hw2l];((try simp only[vau] at *)<;>omega))),trivial⟩<|(zE) ?_;exact zP [.tmp 6]):p:=h
open Go.Proofs.Tryz renaming func195 -> var in
open Go.Proofs renaming ae -> vas,U6 -> vav in
open Go.Ev renaming vm -> vau in
def DM(l:List aq)(i:Nat)(x:aq)(hi:i<=l.length)(hne:0<l.length)(hlen:l.length<=100000):SC prog 195 [.buf 0 l.length 14 none,qD i,.buf 1 1 14 (some 1)] [.cells (l.flatMap ae),.cells (ae x)] [0,1] (λr S'=>r=an 14 (l.take i++x::l.drop i) ae/\S'=[.gone,.gone]):=by
 have vat:=@dx;have vaw:=@BS;have vax:=@D4;have vay:=@Pz;exact Q6
def D5:Cl prog 265:=by
 intro w a b la ca lb cb tA tB kA kB h1 h2 h3 h4 h5 h6
 rw[run_callFunc_extern Tryz.func265 zW zW zW (e:=Extern.SlicesOverlaps.overlaps #[50,50] #[4]) zW,
  Lib.run_overlaps_apart w 50 4 198 zW 2 (λw=>bT zW) a b la ca lb cb h1 tA tB kA kB h2 h3 h4 h5 h6]
 rfl
def A1(x:bN):SC prog 200 [.e0 2,qD 0,.buf 0 1 2 (some 1)] [.cells (aJ x)] [0] (λr S'=>r=an 2 [x] aJ/\S'=[.gone]):=by
 refine OE 95 Tryz.func200 ?_;have hkc:=λo:Nat=>bQ (o:=o) (gK x);have hon:(aJ x).all eB=true:=rfl;rw[pn] at hkc hon ⊢
 refine(om)<|(om)<|(lj)<|(w6)<|(aD (bu hkc hon))<|zA [(6,.buf 1 1 2 none)] [.gone,.cells (aJ x)] (cf @pn) ?_;refine zZ [(6,an 2 [x] aJ)] 1 rfl ⟨.inr (.buf rfl (by rw[flatMap_cons,flatMap_nil,append_nil];exact cu.refl (gK x)) (by show 1*2<=2;decide)),trivial⟩<|zA [(6,an 2 [x] aJ)] [.gone] zH<|(zE) ?_;exact zP [.tmp 6]
open Go.Proofs renaming bN -> vao,aJ -> vap in
open Go.Ev renaming J0 -> vaq in
def PA(l:List bN)(i:Nat)(x:bN)(hi:i<l.length)(A:List SV):
 (((l.flatMap aJ++A).take ((i+1)*2)++((l.drop i).flatMap aJ++(l.flatMap aJ++A).drop ((i+1)*2+(l.length-i)*2))).take (i*2)++(aJ x++((l.flatMap aJ++A).take ((i+1)*2)++((l.drop i).flatMap aJ++(l.flatMap aJ++A).drop ((i+1)*2+(l.length-i)*2))).drop (i*2+2))).take ((l.length+1)*2)=(l.take i++x::l.drop i).flatMap aJ:=by
 exact Q5
open Go.Proofs.Tryz renaming func200 -> var in
open Go.Proofs renaming aJ -> vas,U7 -> vav in
open Go.Ev renaming J0 -> vau in
def DN(l:List bN)(i:Nat)(x:bN)(hi:i<=l.length)(hne:0<l.length)(hlen:l.length<=100000):SC prog 200 [.buf 0 l.length 2 none,qD i,.buf 1 1 2 (some 1)] [.cells (l.flatMap aJ),.cells (aJ x)] [0,1] (λr S'=>r=an 2 (l.take i++x::l.drop i) aJ/\S'=[.gone,.gone]):=by
 have vat:=@gK;have vaw:=@BT;have vax:=@D5;have vay:=@PA;exact Q6
def J3{a:List Nat}:∀{l:List (List Nat)},ku (a::l)=true->∀x∈l,gC a x=true
 | [],_,x,h=>by simp at h
 | b::r,ho,x,h=>by
  rw[ku,ac] at ho
  rcases t7 h with rfl | h
  ·exact ho.1
  ·exact ij ho.1 (J3 ho.2 x h)
def LA{a:List Nat}{l:List (List Nat)}(h:ku (a::l)=true):ku l=true:=by
 cases l with
 | nil=>rfl
 | cons b r=>rw[ku,ac] at h;exact h.2
def qS{α:Type}(key:α->List Nat):∀{l:List α},ku (l.map key)=true->∀k:List Nat,(l.takeWhile λx=>gC (key x) k).length<=l.length/\∀(a:Nat) (x:α),l[a]?=some x->(gC (key x) k=true↔a<(l.takeWhile λx=>gC (key x) k).length)
 | [],_,k=>⟨aa _,λa x h=>by simp at h⟩
 | y::l,ho,k=>by
  have ih:=qS key (LA ho) k;have hlt:=J3 (a:=key y) (l:=l.map key) ho
  cases h:gC (key y) k with
  | true=>
   rw[dc,ut h,i7,i7];refine⟨Nat.succ_le_succ ih.1,λa x hx=>?_⟩
   cases a with
   | zero=>simp only[cp,qr] at hx;subst hx;exact⟨λ_=>em _,λ_=>h⟩
   | succ a=>simp only[bh] at hx;rw[ih.2 a x hx];exact⟨Nat.succ_lt_succ,Nat.lt_of_succ_lt_succ⟩
  | false=>
   rw[dc,v6 (by rw[h];decide),i5];refine⟨bs _,λa x hx=>⟨λhh=>?_,λhh=>un hh (ci _)⟩⟩;exfalso
   cases a with
   | zero=>simp only[cp,qr] at hx;subst hx;rw[h] at hh;cases hh
   | succ a=>
    simp only[bh] at hx;have:=ij (hlt _ (c6 (aS hx))) hh;rw[h] at this;cases this
def rE(l:List aq)(k:List Nat):Nat:=(l.takeWhile λx=>gC (aq.name x) k).length
def df(l:List aq)(x:aq):List aq:=if oz l (aq.name x) (rE l (aq.name x))=true then l.set (rE l (aq.name x)) x else l.take (rE l (aq.name x))++x::l.drop (rE l (aq.name x))
def LG{l:List aq}(ho:ku (l.map aq.name)=true)(k:List Nat):Be l k (rE l k):=
 ⟨(qS aq.name ho k).1,(qS aq.name ho k).2⟩
def wT(y:aq)(k:List Nat){g:FuncId}{cap:List SV}(hcap:bR cap=true)(hk:PC prog g ([.ag (ae y)]++cap) (·=ah (aq.name y))):PC prog 194 [.ag (ae y),ah k,.ip [.fn g [] cap]] (·=ab (wI (aq.name y) k)):=by
 refine pB 11 Tryz.func194 ?_;have hkc:=λo:Nat=>bQ (o:=o) (dx y);have hxl:(ae y).length=14:=rfl;have hxt:(ae y).take 14=ae y:=rfl
 exact(aD hkc)<|(e9 (bu hxl hxt))<|(zK hk (hwk:=cu.refl (kT (by simp only[bR,mq,dx];rfl) hcap)))<|(zQ)<|(zK (sg (aq.name y) k))<|(zR)<|zo [.tmp 5]
def Q7 (h:p:=by
  refine pB 32 vaz ?_;have hkc:=λo:Nat=>bQ (o:=o) (va0 x);have hkl:=λo:Nat=>bx (enc:=va1) va0 o l;have hkp:=λo:Nat=>bQ (o:=o) hcap;have hxl:(va1 x).length=va2:=rfl;simp only[va2] at hxl;have hxt:(va1 x).take va2=va1 x:=rfl;simp only[va2] at hxt;have hon:(va1 x).all eB=true:=rfl;have hnk:∀o:Nat,aM o (.fn g [] cap)=.fn g [] cap:=λo=>vc (by rw[mq,hcap];rfl);have hnc:∀o:Nat,eI o cap=false:=λo=>cg hcap;have hnx:∀o:Nat,eI o (va1 x)=false:=λo=>cg (va0 x)
  have hgf:bR [SV.fn g [] cap]=true:=by rw[bR,mq,hcap];rfl
  have hbl:∀B:Nat,iI B (l.flatMap va1)=true:=λB=>bO (aE va0 l);have hrl:∀r:Nat->Nat,mP r (l.flatMap va1)=l.flatMap va1:=λr=>bp (aE va0 l);have hbc:∀B:Nat,iI B (va1 x)=true:=λB=>bO (va0 x);have hrc:∀r:Nat->Nat,mP r (va1 x)=va1 x:=λr=>bp (va0 x);have hbq:∀(B:Nat) (q:List va3),iI B (q.flatMap va1)=true:=λB q=>bO (aE va0 q);have hrq:∀(r:Nat->Nat) (q:List va3),mP r (q.flatMap va1)=q.flatMap va1:=λr q=>bp (aE va0 q);have hpart:=va4 ho (va5 x);have hbs:=va6 l hlen (g:=va7) (cap:=[.ip [.fn g [] cap]]) rfl (va5 x) _ (λy _=>va8 y (va5 x) hcap (hk y)) hpart;generalize hpos:va9 l (va5 x)=pos at hpart hbs
  have hput:vba l x=if vbb l (va5 x) pos=true then l.set pos x else l.take pos++x::l.drop pos:=by rw[vba,hpos]
  refine(aD (gm hkc hnk hnc hnx))<|(e9 (bu hxl hxt))<|(zK (hk x) (hwk:=cu.refl (kT (by simp only[bR,mq,va0];rfl) hcap)))<|(zQ)<|(zK hbs (hwk:=.cons (.sl _ _ _) (.cons (.a _) (.cons (.fn .nil (.cons (.ptr rfl (cu.refl hgf) (Nat.zero_le _)) .nil)) .nil))))<|(zR)<|(zC) ?_
  by_cases hne:l=[]
  ·subst hne
   have hf0:vbb [] (va5 x) pos=false:=by unfold vbb;rw[List.getElem?_nil]
   have hp0:pos=0:=Nat.le_zero.1 hpart.le;rw[hf0] at hput ⊢;subst hp0
   refine zS [] (gm hkc hnk hnc hnx) vbc ?_;refine(zR)<|(El)<|(e9 (uP hxl hxt hkc hnk hnc hnx)) ?_;refine zS [2] (gm hkc hnk hnc hnx) (vbd x) ?_;exact(zR)<|zo [.tmp 6] (r:=an va2 [x] va1) (hw:=zv) (hq:=by rw[hput];rfl)
  have hs:0<l.length:=Nat.pos_of_ne_zero (λe=>hne (t8 e))
  refine zS [] (Hm hkc hnk hnc hnx hkl hbl hrl) (vbe l (by ((try simp only[va2,va7] at *)<;>omega)) hne) ?_;refine(zR)<|(zV) ?_
  cases hfd:vbb l (va5 x) pos
  ·rw[hfd,v6 g9] at hput
   refine(zN)<|(e9 (Hm hxl hxt hkc hnk hnc hnx hkl)) ?_;refine zS [3,4] (bu (Mj hkc hnk hnc hnx hkl hbl hrl hrc hbc) (bu hrq hbq)) (vbf l pos x hpart.le hs hlen) ?_;exact(zR)<|zo [.tmp 6] (r:=an va2 (l.take pos++x::l.drop pos) va1) (hw:=zv) (hq:=by rw[hput])
  ·rw[hfd,ut rfl] at hput;refine(zY) ?_
   have hlt:pos<l.length:=by
    apply Decidable.byContradiction;intro hn;unfold vbb at hfd;rw[List.getElem?_eq_none (by ((try simp only[va2,va7] at *)<;>omega))] at hfd;cases hfd
   have hcl:(l.flatMap va1).length=l.length*va2:=aU (enc:=va1) (e:=va2) gc l;simp only[va2] at hcl;have hst:=rh (enc:=va1) (e:=va2) gc x hlt
   refine(aD (Hm hlt hxl hxt hcl (show pos*va2+va2<=l.length*va2 by ((try simp only[va2,va7] at *)<;>omega)) hon hst))<|(zV) ?_
   have hsl:(l.set pos x).length=l.length:=List.length_set
   exact zo [.tmp 6] (r:=.sl l.length va2 ((l.set pos x).flatMap va1)) (hw:=.buf rfl (by rw[<-hsl,ek (enc:=va1) (e:=va2) gc];exact cu.refl (aE va0 _)) (by rw[aU (enc:=va1) (e:=va2) gc,hsl];exact Nat.le_refl _)) (hq:=by rw[hput,an,hsl])):p:=h
open Go.Proofs.Tryz renaming func110 -> vaz in
open Go.Proofs renaming ae -> va1,aq -> va3,rE -> va9,df -> vba,oz -> vbb in
open Go.Ev renaming vm -> va2,P9 -> va7 in
open Go.Proofs.aq renaming name -> va5 in
def D6(l:List aq)(hlen:l.length<=100000)(x:aq){g:FuncId}(hcap:bR cap=true)(hk:∀y,PC prog g ([.ag (ae y)]++cap) (·=ah (aq.name y)))(ho:ku (l.map aq.name)=true):
 PC prog 110 [an 14 l ae,.ag (ae x),.fn g [] cap] (·=an 14 (Proofs.df l x) ae):=by
 have va0:=@dx;have va4:=@LG;have va6:=@Gq;have va8:=@wT;have vbc:=@wQ;have vbd:=@A0;have vbe:=@pZ;have vbf:=@DM;exact Q7
def rF(l:List bN)(k:List Nat):Nat:=(l.takeWhile λx=>gC (bN.key x) k).length
def nG(l:List bN)(x:bN):List bN:=if rj l (bN.key x) (rF l (bN.key x))=true then l.set (rF l (bN.key x)) x else l.take (rF l (bN.key x))++x::l.drop (rF l (bN.key x))
def LH{l:List bN}(ho:ku (l.map bN.key)=true)(k:List Nat):Bf l k (rF l k):=
 ⟨(qS bN.key ho k).1,(qS bN.key ho k).2⟩
def wU(y:bN)(k:List Nat){g:FuncId}{cap:List SV}(hcap:bR cap=true)(hk:PC prog g ([.ag (aJ y)]++cap) (·=ah (bN.key y))):PC prog 198 [.ag (aJ y),ah k,.ip [.fn g [] cap]] (·=ab (wI (bN.key y) k)):=by
 refine pB 11 Tryz.func198 ?_;have hkc:=λo:Nat=>bQ (o:=o) (gK y);have hxl:(aJ y).length=2:=rfl;have hxt:(aJ y).take 2=aJ y:=rfl
 exact(aD hkc)<|(e9 (bu hxl hxt))<|(zK hk (hwk:=cu.refl (kT (by simp only[bR,mq,gK];rfl) hcap)))<|(zQ)<|(zK (sg (bN.key y) k))<|(zR)<|zo [.tmp 5]
open Go.Proofs.Tryz renaming func118 -> vaz in
open Go.Proofs renaming aJ -> va1,bN -> va3,rF -> va9,nG -> vba,rj -> vbb in
open Go.Ev renaming J0 -> va2,Qa -> va7 in
open Go.Proofs.bN renaming key -> va5 in
def D7(l:List bN)(hlen:l.length<=100000)(x:bN){g:FuncId}(hcap:bR cap=true)(hk:∀y,PC prog g ([.ag (aJ y)]++cap) (·=ah (bN.key y)))(ho:ku (l.map bN.key)=true):
 PC prog 118 [an 2 l aJ,.ag (aJ x),.fn g [] cap] (·=an 2 (Proofs.nG l x) aJ):=by
 have va0:=@gK;have va4:=@LH;have va6:=@Gr;have va8:=@wU;have vbc:=@wR;have vbd:=@A1;have vbe:=@wS;have vbf:=@DN;exact Q7
open Go.Proofs.Tryz renaming func196 -> vaa in
open Go.Ev renaming vm -> vab in
open Go.Proofs renaming ae -> vac in
def DQ{l:List (aq)}(p:aq->Bool)(hlen:l.length<=1000000)(hp:∀x∈l,PC prog fid ((first++[.ag (ae x)])++cap) (·=ai (p x)))(hg:bR first=true/\bR cap=true):PC prog 196 [an 14 l ae,.fn fid first cap] (·=ab (fO p l)):=by
 have vad:=@ae.eq_1;exact JL
def uk{l:List (aq)}(p:aq->Bool)(hlen:l.length<=1000000)(hp:∀x∈l,PC prog fid ((first++[.ag (ae x)])++cap) (·=ai (p x)))(hg:bR first=true/\bR cap=true):PC prog 115 [an 14 l ae,.fn fid first cap] (·=ai (l.any p)):=by
 refine pB 9 Tryz.func115 ?_;exact(jr)<|(zK (DQ p hlen hp hg) (hwk:=.cons (Wk.sl _ _ _) (.cons (.fn (cu.refl hg.1) (cu.refl hg.2)) .nil)))<|(zR)<|zo [.tmp 4] (hq:=by rw[nB])
def j8(r:List aq×Int):SV:=.cx [.ag [an 14 r.1 ae],ab r.2]
def dg(k:Int):PC prog 112 [ab k] (·=j8 ([],k)):=by
 refine pB 6 Tryz.func112 ?_;exact(om)<|jZ [.cell 2 46,.tmp 3] (r:=.cx [.ag [.sl 0 14 []],ab k]) (hw:=zv)
def A3(p:aq):PC prog 111 [.ag (ae p)] (·=ah p.name):=by
 refine pB 5 Tryz.func111 ?_;exact(aD @ae.eq_1)<|(zV)<|zo [.tmp 2]
def A4(p:bN):PC prog 119 [.ag (aJ p)] (·=ah p.key):=by
 refine pB 5 Tryz.func119 ?_;exact(aD @aJ.eq_1)<|(zV)<|zo [.tmp 2]
def fH(ps:List aq)(hlen:ps.length<=100000)(ho:ku (ps.map aq.name)=true)(p:aq):PC prog 109 [.ag (ae p),.ip [an 14 ps ae]] (·=j8 (Proofs.df ps p,0)):=by
 refine pB 10 Tryz.func109 ?_;have hput:=D6 ps hlen p (g:=111) (cap:=[]) rfl A3 ho;rw[dT] at hput ⊢
 exact(jr)<|(zK hput (hfl:=.inr zr))<|(zR)<|jZ [.cell 3 46,.tmp 4]
def GB(e:bB)(q:aq):PC prog 117 [.ag (ae q),.ip (ar e)] (·=ai (decide (q.br=e.br)&&decide (q.slot=e.slot))):=by
 refine pB 16 Tryz.func117 ?_;refine(aD (bu @ae.eq_1 @ar.eq_1)) ?_;cases h:decide (q.br=e.br)
 ·exact(aD h)<|zo [.tmp 3]
 ·exact(aD h)<|zo [.tmp 3]
def GD(p q:aq):PC prog 120 [.ag (ae q),.ip (ae p)] (·=ai (decide (q.br=p.name))):=by
 refine pB 9 Tryz.func120 ?_;exact(aD @ae.eq_1)<|(zV)<|zo [.tmp 3]
def uo(ps:List aq)(hlen:ps.length<=1000000)(d:aq->Bool){g:FuncId}(hcap:bR cap=true)(hp:∀q∈ps,PC prog g ([.ag (ae q)]++cap) (·=ai (d q))):PC prog 114 [.fn g [] cap,.ip [an 14 ps ae]] (·=ai (ps.any d)):=by
 refine pB 8 Tryz.func114 ?_;have h:=uk (l:=ps) d (fid:=g) (first:=[]) (cap:=cap) hlen hp ⟨rfl,hcap⟩
 exact(jr)<|(zK h (hwk:=cu.cons (Wk.sl _ _ _) (.cons (.fn .nil (cu.refl hcap)) .nil)))<|(zR)<|zo [.tmp 3]
def rA(e:bB):aq:=⟨e.part,e.kind,[],[],e.day,e.day,false,[],0,0,0,0,0,0⟩
def BK(c:List aV)(ps:List aq)(e:bB)(is:Bool):List aq×Int:=
 if is=true then ([],3) else if (dU c e.kind).isNone=true then ([],4) else if ((ps.length:Int)=20000) then ([],7) else (df ps (rA e),0)
def AE(p:aq)(e:bB):aq:={ p with br:=e.br,slot:=e.slot }
def AQ(p:aq):aq:={ p with br:=[],slot:=[] }
def nU(p:aq)(e:bB):aq:={ p with since:=eH p.since e.day,l1:=0,l2:=0,l3:=0,l4:=0,l5:=0,l6:=0 }
def rX(p:aq)(e:bB):aq:={ p with props:=nG p.props ⟨e.key,e.value⟩ }
def rV(p:aq):aq:={ p with cN:=true }
def jY(c:List aV)(ps:List aq)(e:bB)(p h:aq):List aq×Int:=
 let k:=(dU c p.kind).getD aV.zero
 if e.op=2 then (if (k.vehicle||!vz c h.kind e.slot p.kind)=true then ([],4) else if p.br≠[] then ([],5) else
  if (ps.any λq=>decide (q.br=e.br)&&decide (q.slot=e.slot))=true then ([],6) else (df ps (AE p e),0))
 else if e.op=3 then (if p.br=[] then ([],5) else (df ps (AQ p),0))
 else if e.op=4 then (if k.vehicle=true then (df ps p,0) else ([],4))
 else if e.op=5 then (df ps (nU p e),0)
 else if e.op=6 then (if 60<((Proofs.nG p.props ⟨e.key,e.value⟩).length:Int) then ([],7) else (df ps (rX p e),0))
 else if e.op=7 then (if p.br≠[] then ([],5) else if (ps.any λq=>decide (q.br=p.name))=true then ([],5) else (df ps (rV p),0))
 else (df ps p,0)
def aX(c:List aV)(ps:List aq)(e:bB):List aq×Int:=
 if kH c ps=true then (if gz e=true then
  (if e.op=1 then BK c ps e (pA ps (nQ 0 [] ps) e.part).isSome else
   match pA ps (nQ 0 [] ps) e.part,(if e.op=2 then pA ps (nQ 0 [] ps) e.br else pA ps (nQ 0 [] ps) e.part) with
   | some p,some h=>if (p.cN||h.cN)=true then ([],5) else jY c ps e p h
   | _,_=>([],2))
  else ([],1)) else ([],1)
def qE{c:List aV}{ps:List aq}{m:List (List Nat×Int)}:∀{taken:List (iD×Bool)} {l:List aq},fV c ps m taken l=true->∀p∈l,kD c p=true
 | _,[],_,p,hp=>by simp at hp
 | taken,q::r,h,p,hp=>by
  rw[fV,ac,ac] at h
  rcases t7 hp with rfl | hp
  ·exact h.1
  ·cases hd:decide (q.br=[]) with
   | true=>rw[hd,ak] at h;exact qE h.2.2 p hp
   | false=>rw[hd,au,ac] at h;exact qE h.2.2.2 p hp
def Jo{c:List aV}{ps:List aq}(h:kH c ps=true){p:aq}(hp:p∈ps):p.props.length<=60/\ku (p.props.map bN.key)=true:=by
 unfold kH at h;simp only[ac] at h;have:=qE h.2.2.2 p hp;unfold kD at this;simp only[ac,bg,wn] at this;refine⟨by have:=this.2.2.2.2.2.1;omega,this.2.2.2.2.2.2.2.1⟩
def zJ(c:List aV)(ps:List aq)(e:bB)(hc:mz c)(hlen:ps.length<=100000)(hps:∀p∈ps,fq p)(he:lN e):PC prog 48 [.ag [an 3 c ao],.ag [an 14 ps ae],.ag (ar e)] (·=j8 (aX c ps e)):=by
 have hlen1:ps.length<=1000000:=by omega
 have hct:∀k∈c,k.bL.length<=1000000/\∀s∈k.bL,s.kinds.length<=1000000:=λk hk=>⟨(hc.kind k hk).2,λs hs=>(hc.slot k hk s hs).2⟩;have hy:Rz ps (nQ 0 [] ps):=Cs i4 (Ek ps);have hvE:=G2 e he;refine pB 235 Tryz.func48 ?_;rw[dw] at hvE ⊢
 refine(jr)<|(zK (G3 c ps hc hlen1 hps)) ?_
 cases h1:Proofs.kH c ps
 ·exact(zR)<|(cI)<|jZ [.cell 6 46,.tmp 7] (r:=.cx [.ag [.sl 0 14 []],ab 1]) (hw:=zv) (hq:=by rw[show aX c ps e=([],1) by simp[aX,h1]];rfl)
 refine(zQ)<|(zK hvE) ?_
 cases h2:gz e
 ·exact(zR)<|(cI)<|jZ [.cell 6 46,.tmp 7] (r:=.cx [.ag [.sl 0 14 []],ab 1]) (hw:=zv) (hq:=by rw[show aX c ps e=([],1) by simp[aX,h1,h2]];rfl)
 refine(zR)<|(zN) ?_
 have ho:ku (ps.map aq.name)=true:=by
  unfold Proofs.kH at h1;simp only[ac] at h1;exact h1.2.2.1
 refine zA [(3,.ptr 0 0),(4,.ptr 1 0),(5,.ptr 2 0),(6,.ptr 3 0),(7,ab 0)] [.cells [an 3 c ao],.cells [an 14 ps ae],.cells [ab e.op,ab e.day,ah e.part,ah e.kind,ah e.br,ah e.slot,ah e.key,ah e.value,ab e.u1,ab e.u2,ab e.u3,ab e.u4,ab e.u5,ab e.u6],.cells [.a (.slice none 0 0 (some 0))]] zH<|zZ [(3,.ip [an 3 c ao]),(4,.ptr 1 0),(5,.ptr 2 0),(6,.ptr 3 0),(7,ab 0)] 0 rfl (gw @an.eq_1)<|zZ [(3,.ip [an 3 c ao]),(4,.ip [an 14 ps ae]),(5,.ptr 2 0),(6,.ptr 3 0),(7,ab 0)] 1 rfl (gw @an.eq_1)<|zZ [(3,.ip [an 3 c ao]),(4,.ip [an 14 ps ae]),(5,.ip [ab e.op,ab e.day,ah e.part,ah e.kind,ah e.br,ah e.slot,ah e.key,ah e.value,ab e.u1,ab e.u2,ab e.u3,ab e.u4,ab e.u5,ab e.u6]),(6,.ptr 3 0),(7,ab 0)] 2 rfl (gw @an.eq_1) ?_
 (try change aG _ _ _ _ _)
 refine(zC)<|(zK (rJ ps hlen1) (hfl:=.inr zr)) ?_
 generalize hM:nQ 0 [] ps=M at hy
 refine(cP (bu @Cf.eq_1 hM))<|(om)<|(zC) ?_
 have hG:=na ps M e.part hy
 cases hg:pA ps M e.part with
 | none=>
  rw[hg] at hG
  refine(zK hG (hfl:=.inr zr))<|(cP (cJ @iW.eq_1 @ae.eq_1 @aq.zero.eq_1)) ?_
  by_cases ho1:e.op=1
  ·refine(aD (wl ho1))<|(cI)<|(Ml) ?_
   have hF:=kF c e.kind hc.len
   cases hf:dU c e.kind with
   | none=>
    rw[hf] at hF
    exact(zK hF (hfl:=.inr zr))<|(cP (cJ @iW.eq_1 @ao.eq_1 @aV.zero.eq_1))<|(w6)<|(zC)<|(zK (dg _) (hfl:=.inr zr))<|(cP @an.eq_1)<|jZ [.cell 6 46,.tmp 7] (hq:=by rw[show aX c ps e=([],4) by simp[aX,BK,h1,h2,hM,hg,ho1,hf]];rfl)
   | some k=>
    rw[hf] at hF
    refine(zK hF (hfl:=.inr zr))<|(cP (bu @iW.eq_1 @ao.eq_1))<|(El) ?_
    by_cases hl:(ps.length:Int)=20000
    ·exact(aD (wl hl))<|(zY)<|(zC)<|(zK (dg _) (hfl:=.inr zr))<|(cP @an.eq_1)<|jZ [.cell 6 46,.tmp 7] (hq:=by rw[show aX c ps e=([],7) by simp[aX,BK,h1,h2,hM,hg,ho1,hf,hl]];rfl)
    ·refine(aD (wd hl))<|(zN) ?_
     have hnext:=fH ps hlen ho (rA e);simp only[dT,rA] at hnext
     exact(zC)<|(zK hnext (hfl:=.inr zw))<|(cP (bu @j8.eq_1 @an.eq_1))<|jZ [.cell 6 46,.tmp 7] (hq:=by rw[show aX c ps e=(Proofs.df ps (rA e),0) by simp[aX,BK,h1,h2,hM,hg,ho1,hf,hl]];rfl)
  by_cases ho2:e.op=2
  ·refine(aD (wd ho1))<|(lj)<|(aD (wl ho2))<|(zY)<|(zC) ?_
   have hH:=na ps M e.br hy
   obtain⟨q,b,hq⟩:∃(q:aq) (b:Bool),iW ae aq.zero (pA ps M e.br)=.cx [.ag (ae q),ai b]:=by
    cases pA ps M e.br with
    | none=>exact⟨aq.zero,false,rfl⟩
    | some q=>exact⟨q,true,rfl⟩
   rw[hq] at hH
   exact(zK hH (hfl:=.inr zr))<|(cP @ae.eq_1)<|(w6)<|(zC)<|(zK (dg _) (hfl:=.inr zr))<|(cP @an.eq_1)<|jZ [.cell 6 46,.tmp 7] (hq:=by rw[show aX c ps e=([],2) by simp[aX,h1,h2,hM,hg,ho1,ho2]];rfl)
  ·exact(aD (wd ho1))<|(lj)<|(aD (wd ho2))<|(lj)<|(zY)<|(zC)<|(zK (dg _) (hfl:=.inr zr))<|(cP @an.eq_1)<|jZ [.cell 6 46,.tmp 7] (hq:=by rw[show aX c ps e=([],2) by simp[aX,h1,h2,hM,hg,ho1,ho2]];rfl)
 | some p=>
  rw[hg] at hG
  refine(zK hG (hfl:=.inr zr))<|(cP (bu @iW.eq_1 @ae.eq_1)) ?_
  by_cases ho1:e.op=1
  ·exact(aD (wl ho1))<|(cI)<|(zY)<|(zC)<|(zK (dg _) (hfl:=.inr zr))<|(cP @an.eq_1)<|jZ [.cell 6 46,.tmp 7] (hq:=by rw[show aX c ps e=([],3) by simp[aX,BK,h1,h2,hM,hg,ho1]];rfl)
  refine zA [(3,.ip [an 3 c ao]),(4,.ip [an 14 ps ae]),(5,.ip [ab e.op,ab e.day,ah e.part,ah e.kind,ah e.br,ah e.slot,ah e.key,ah e.value,ab e.u1,ab e.u2,ab e.u3,ab e.u4,ab e.u5,ab e.u6]),(6,.ptr 3 0),(7,ab 0),(8,.ptr 4 0),(9,.fn 109 [] [.ip [an 14 ps ae]]),(10,.fn 112 [] []),(11,.ptr 5 0),(12,ai true)] [.gone,.gone,.gone,.cells [.a (.slice none 0 0 (some 0))],.cells [an 14 ps ae,lU AV.str ab M],.cells [ah p.name,ah p.kind,ah p.br,ah p.slot,ab p.made,ab p.since,ai p.cN,an 2 p.props aJ,ab p.l1,ab p.l2,ab p.l3,ab p.l4,ab p.l5,ab p.l6]] zH<|(aD (wd ho1))<|(lj) ?_
  by_cases ho2:e.op=2
  ·refine(aD (wl ho2))<|(zY)<|(zC) ?_
   have hH:=na ps M e.br hy
   cases hh:pA ps M e.br with
   | none=>
    rw[hh] at hH
    exact(zK hH (hfl:=.inr zr))<|(cP (cJ @iW.eq_1 @ae.eq_1 @aq.zero.eq_1))<|(w6)<|(zC)<|(zK (dg _) (hfl:=.inr zr))<|(cP @an.eq_1)<|jZ [.cell 6 46,.tmp 7] (hq:=by rw[show aX c ps e=([],2) by simp[aX,h1,h2,hM,hg,ho1,ho2,hh]];rfl)
   | some h=>
    rw[hh] at hH
    refine(zK hH (hfl:=.inr zr))<|(cP (bu @iW.eq_1 @ae.eq_1))<|(El) ?_
    cases f1:p.cN;rotate_left
    ·exact(aD f1)<|(zY)<|(zC)<|(zK (dg _) (hfl:=.inr zr))<|(cP @an.eq_1)<|jZ [.cell 6 46,.tmp 7] (hq:=by rw[show aX c ps e=([],5) by simp[aX,h1,h2,hM,hg,ho1,ho2,hh,f1]];rfl)
    cases f2:h.cN;rotate_left
    ·exact(aD (bu f1 f2))<|(zY)<|(zC)<|(zK (dg _) (hfl:=.inr zr))<|(cP @an.eq_1)<|jZ [.cell 6 46,.tmp 7] (hq:=by rw[show aX c ps e=([],5) by simp[aX,h1,h2,hM,hg,ho1,ho2,hh,f1,f2]];rfl)
    refine(aD (bu f1 f2))<|(lj)<|(zC) ?_
    have hF:=kF c p.kind hc.len
    obtain⟨kd,b,hq,hkd⟩:∃(kd:aV) (b:Bool),iW ao aV.zero (dU c p.kind)=.cx [.ag (ao kd),ai b]/\(dU c p.kind).getD aV.zero=kd:=by
     cases dU c p.kind with
     | none=>exact⟨aV.zero,false,rfl,rfl⟩
     | some q=>exact⟨q,true,rfl,rfl⟩
    rw[hq] at hF
    refine(zK hF (hfl:=.inr zr))<|(cP @ao.eq_1)<|(zV)<|zA [(3,.ip [an 3 c ao]),(4,.ip [an 14 ps ae]),(5,.ip [ab e.op,ab e.day,ah e.part,ah e.kind,ah e.br,ah e.slot,ah e.key,ah e.value,ab e.u1,ab e.u2,ab e.u3,ab e.u4,ab e.u5,ab e.u6]),(6,.ptr 3 0),(7,ab 0),(9,.fn 109 [] [.ip [an 14 ps ae]]),(10,.fn 112 [] []),(11,.ptr 5 0),(15,.ptr 6 0),(17,.fn 114 [] [.ip [an 14 ps ae]]),(18,.ptr 7 0),(123,ab e.op)] [.gone,.gone,.gone,.cells [.a (.slice none 0 0 (some 0))],.gone,.cells [ah p.name,ah p.kind,ah p.br,ah p.slot,ab p.made,ab p.since,ai false,an 2 p.props aJ,ab p.l1,ab p.l2,ab p.l3,ab p.l4,ab p.l5,ab p.l6],.cells [ah h.name,ah h.kind,ah h.br,ah h.slot,ab h.made,ab h.since,ai false,an 2 h.props aJ,ab h.l1,ab h.l2,ab h.l3,ab h.l4,ab h.l5,ab h.l6],.cells [ah kd.name,ai kd.vehicle,an 3 kd.bL bH]] (cf @ae.eq_1)<|(zB) ?_
    refine(aD (wl ho2))<|(gA) ?_
    cases g1:kd.vehicle;rotate_left
    ·exact(aD g1)<|(zY)<|(zC)<|(zK (dg _) (hfl:=.inr zr))<|(cP @an.eq_1)<|jZ [.cell 6 46,.tmp 7] (hq:=by rw[show aX c ps e=([],4) by simp[aX,h1,h2,hM,hg,ho1,ho2,hh,f1,f2,jY,hkd,g1]];rfl)
    refine(e9 g1)<|(zK (wx c h.kind e.slot p.kind hc.len hct)) ?_
    cases g2:Proofs.vz c h.kind e.slot p.kind
    ·exact(zR)<|(zY)<|(zC)<|(zK (dg _) (hfl:=.inr zr))<|(cP @an.eq_1)<|jZ [.cell 6 46,.tmp 7] (hq:=by rw[show aX c ps e=([],4) by simp[aX,h1,h2,hM,hg,ho1,ho2,hh,f1,f2,jY,hkd,g1,g2]];rfl)
    refine(zR)<|(zN) ?_
    by_cases g3:p.br=[];rotate_left
    ·exact(aD (wd g3))<|(zY)<|(zC)<|(zK (dg _) (hfl:=.inr zr))<|(cP @an.eq_1)<|jZ [.cell 6 46,.tmp 7] (hq:=by rw[show aX c ps e=([],5) by simp[aX,h1,h2,hM,hg,ho1,ho2,hh,f1,f2,jY,hkd,g1,g2,g3]];rfl)
    refine(aD (wl g3))<|(Ml) ?_
    have hho:=uo ps hlen1 (λq=>decide (q.br=e.br)&&decide (q.slot=e.slot)) (g:=117) (cap:=[.ip [ab e.op,ab e.day,ah e.part,ah e.kind,ah e.br,ah e.slot,ah e.key,ah e.value,ab e.u1,ab e.u2,ab e.u3,ab e.u4,ab e.u5,ab e.u6]]) rfl (λq _=>by rw[<-dw];exact GB e q);refine(zK hho) ?_;cases g4:ps.any λq=>decide (q.br=e.br)&&decide (q.slot=e.slot);rotate_left
    ·exact(zR)<|(zY)<|(zC)<|(zK (dg _) (hfl:=.inr zr))<|(cP @an.eq_1)<|jZ [.cell 6 46,.tmp 7] (hq:=by rw[show aX c ps e=([],6) by simp[aX,h1,h2,hM,hg,ho1,ho2,hh,f1,f2,jY,hkd,g1,g2,g3,g4,-b6]];rfl)
    refine(zR)<|(zN) ?_
    (try change aG _ _ _ _ _)
    refine(zs) ?_;refine nh [0,1,0,4,3,19,63,127] ?_;refine(qg) ?_;refine SD.e ii rfl ii rfl rfl ii zl ?_;refine(qg) ?_;refine SD.e ii rfl ii rfl rfl ii zl ?_;refine(zM) ?_
    (try change aG _ _ _ _ _)
    obtain⟨R,hR⟩:∃R,R=Proofs.df ps (AE p e):=⟨_,rfl⟩;have hnext:=fH ps hlen ho (AE p e);rw[<-hR] at hnext;simp only[dT,f1,AE,AQ,nU,rX,rV] at hnext
    exact(zC)<|(zK hnext (hfl:=.inr zw))<|(cP (bu @j8.eq_1 @an.eq_1))<|jZ [.cell 6 46,.tmp 7] (hq:=by rw[show aX c ps e=(R,0) by rw[hR];simp[aX,h1,h2,hM,hg,ho1,ho2,hh,f1,f2,jY,hkd,g1,g2,g3,g4,-b6,-du]];rfl)
  ·refine(aD (wd ho2))<|(lj)<|(zN) ?_
   cases f1:p.cN;rotate_left
   ·exact(aD f1)<|(zY)<|(zC)<|(zK (dg _) (hfl:=.inr zr))<|(cP @an.eq_1)<|jZ [.cell 6 46,.tmp 7] (hq:=by rw[show aX c ps e=([],5) by simp[aX,h1,h2,hM,hg,ho1,ho2,f1]];rfl)
   have f2:=f1
   refine(aD (bu f1 f2))<|(lj)<|(zC) ?_
   have hF:=kF c p.kind hc.len
   obtain⟨kd,b,hq,hkd⟩:∃(kd:aV) (b:Bool),iW ao aV.zero (dU c p.kind)=.cx [.ag (ao kd),ai b]/\(dU c p.kind).getD aV.zero=kd:=by
    cases dU c p.kind with
    | none=>exact⟨aV.zero,false,rfl,rfl⟩
    | some q=>exact⟨q,true,rfl,rfl⟩
   rw[hq] at hF
   refine(zK hF (hfl:=.inr zr))<|(cP @ao.eq_1)<|(zV)<|zA [(3,.ip [an 3 c ao]),(4,.ip [an 14 ps ae]),(5,.ip [ab e.op,ab e.day,ah e.part,ah e.kind,ah e.br,ah e.slot,ah e.key,ah e.value,ab e.u1,ab e.u2,ab e.u3,ab e.u4,ab e.u5,ab e.u6]),(6,.ptr 3 0),(7,ab 0),(9,.fn 109 [] [.ip [an 14 ps ae]]),(10,.fn 112 [] []),(11,.ptr 5 0),(15,.ptr 6 0),(17,.fn 114 [] [.ip [an 14 ps ae]]),(18,.ptr 7 0),(123,ab e.op)] [.gone,.gone,.gone,.cells [.a (.slice none 0 0 (some 0))],.gone,.cells [ah p.name,ah p.kind,ah p.br,ah p.slot,ab p.made,ab p.since,ai false,an 2 p.props aJ,ab p.l1,ab p.l2,ab p.l3,ab p.l4,ab p.l5,ab p.l6],.cells [ah p.name,ah p.kind,ah p.br,ah p.slot,ab p.made,ab p.since,ai false,an 2 p.props aJ,ab p.l1,ab p.l2,ab p.l3,ab p.l4,ab p.l5,ab p.l6],.cells [ah kd.name,ai kd.vehicle,an 3 kd.bL bH]] (cf @ae.eq_1)<|(zB) ?_
   refine(aD (wd ho2))<|(zN) ?_
   by_cases ho3:e.op=3
   ·refine(aD (wl ho3))<|(zY) ?_
    by_cases g3:p.br=[]
    ·exact(aD (wl g3))<|(zY)<|(zC)<|(zK (dg _) (hfl:=.inr zr))<|(cP @an.eq_1)<|jZ [.cell 6 46,.tmp 7] (hq:=by rw[show aX c ps e=([],5) by simp[aX,h1,h2,hM,hg,ho1,ho2,f1,jY,hkd,ho3,g3]];rfl)
    refine(aD (wd g3))<|(lj) ?_
    (try change aG _ _ _ _ _)
    obtain⟨R,hR⟩:∃R,R=Proofs.df ps (AQ p):=⟨_,rfl⟩;have hnext:=fH ps hlen ho (AQ p);rw[<-hR] at hnext;simp only[dT,f1,AE,AQ,nU,rX,rV] at hnext
    exact(zC)<|(zK hnext (hfl:=.inr zw))<|(cP (bu @j8.eq_1 @an.eq_1))<|jZ [.cell 6 46,.tmp 7] (hq:=by rw[show aX c ps e=(R,0) by rw[hR];simp[aX,h1,h2,hM,hg,ho1,ho2,f1,jY,hkd,ho3,g3]];rfl)
   refine(aD (wd ho3))<|(zN) ?_
   by_cases ho4:e.op=4
   ·refine(aD (wl ho4))<|(zY) ?_
    cases g1:kd.vehicle
    ·exact(aD g1)<|(zY)<|(zC)<|(zK (dg _) (hfl:=.inr zr))<|(cP @an.eq_1)<|jZ [.cell 6 46,.tmp 7] (hq:=by rw[show aX c ps e=([],4) by simp[aX,h1,h2,hM,hg,ho1,ho2,f1,jY,hkd,ho3,ho4,g1]];rfl)
    refine(aD g1)<|(zN) ?_
    (try change aG _ _ _ _ _)
    obtain⟨R,hR⟩:∃R,R=Proofs.df ps p:=⟨_,rfl⟩;have hnext:=fH ps hlen ho p;rw[<-hR] at hnext;simp only[dT,f1,AE,AQ,nU,rX,rV] at hnext
    exact(zC)<|(zK hnext (hfl:=.inr zw))<|(cP (bu @j8.eq_1 @an.eq_1))<|jZ [.cell 6 46,.tmp 7] (hq:=by rw[show aX c ps e=(R,0) by rw[hR];simp[aX,h1,h2,hM,hg,ho1,ho2,f1,jY,hkd,ho3,ho4,g1]];rfl)
   refine(aD (wd ho4))<|(zN) ?_
   by_cases ho5:e.op=5
   ·refine(aD (wl ho5))<|(zY)<|(aD @fk) ?_
    (try change aG _ _ _ _ _)
    obtain⟨R,hR⟩:∃R,R=Proofs.df ps (nU p e):=⟨_,rfl⟩;have hnext:=fH ps hlen ho (nU p e);rw[<-hR] at hnext;simp only[dT,f1,AE,AQ,nU,rX,rV] at hnext
    exact(zC)<|(zK hnext (hfl:=.inr zw))<|(cP (bu @j8.eq_1 @an.eq_1))<|jZ [.cell 6 46,.tmp 7] (hq:=by rw[show aX c ps e=(R,0) by rw[hR];simp[aX,h1,h2,hM,hg,ho1,ho2,f1,jY,hkd,ho3,ho4,ho5]];rfl)
   refine(aD (wd ho5))<|(zN) ?_
   by_cases ho6:e.op=6
   ·refine(aD (wl ho6))<|(zY) ?_
    have hpp:p∈ps:=by
     unfold pA at hg;split at hg
     ·exact aS hg
     ·cases hg
    have hpl:p.props.length<=60/\ku (p.props.map bN.key)=true:=Jo h1 hpp;have hput:=D7 p.props i4 ⟨e.key,e.value⟩ (g:=119) (cap:=[]) rfl A4 hpl.2;rw[pn] at hput
    refine(zC)<|(zK hput (hfl:=.inr zr))<|(zR) ?_
    by_cases g3:60<((Proofs.nG p.props ⟨e.key,e.value⟩).length:Int)
    ·exact(aD (wl g3))<|(zY)<|(zC)<|(zK (dg _) (hfl:=.inr zr))<|(cP @an.eq_1)<|jZ [.cell 6 46,.tmp 7] (hq:=by rw[show aX c ps e=([],7) by simp[aX,h1,h2,hM,hg,ho1,ho2,f1,jY,hkd,ho3,ho4,ho5,ho6,g3]];rfl)
    refine(aD (wd g3))<|(zN) ?_
    (try change aG _ _ _ _ _)
    obtain⟨R,hR⟩:∃R,R=Proofs.df ps (rX p e):=⟨_,rfl⟩;have hnext:=fH ps hlen ho (rX p e);rw[<-hR] at hnext;simp only[dT,f1,AE,AQ,nU,rX,rV] at hnext
    exact(zC)<|(zK hnext (hfl:=.inr zw))<|(cP (bu @j8.eq_1 @an.eq_1))<|jZ [.cell 6 46,.tmp 7] (hq:=by rw[show aX c ps e=(R,0) by rw[hR];simp[aX,h1,h2,hM,hg,ho1,ho2,f1,jY,hkd,ho3,ho4,ho5,ho6,g3]];rfl)
   refine(aD (wd ho6))<|(zN) ?_
   by_cases ho7:e.op=7
   ·refine(aD (wl ho7))<|(zY) ?_
    by_cases g3:p.br=[];rotate_left
    ·exact(aD (wd g3))<|(zY)<|(zC)<|(zK (dg _) (hfl:=.inr zr))<|(cP @an.eq_1)<|jZ [.cell 6 46,.tmp 7] (hq:=by rw[show aX c ps e=([],5) by simp[aX,h1,h2,hM,hg,ho1,ho2,f1,jY,hkd,ho3,ho4,ho5,ho6,ho7,g3]];rfl)
    refine(e9 (wl g3)) ?_;have hho:=uo ps hlen1 (λq=>decide (q.br=p.name)) (g:=120) (cap:=[.ip (ae p)]) rfl (λq _=>GD p q);rw[dT,f1] at hho;refine(zK hho (hwk:=zw)) ?_;cases g4:ps.any λq=>decide (q.br=p.name);rotate_left
    ·exact(zR)<|(zY)<|(zC)<|(zK (dg _) (hfl:=.inr zr))<|(cP @an.eq_1)<|jZ [.cell 6 46,.tmp 7] (hq:=by rw[show aX c ps e=([],5) by simp[aX,h1,h2,hM,hg,ho1,ho2,f1,jY,hkd,ho3,ho4,ho5,ho6,ho7,g3,g4,-b6]];rfl)
    refine(zR)<|(lj) ?_
    (try change aG _ _ _ _ _)
    obtain⟨R,hR⟩:∃R,R=Proofs.df ps (rV p):=⟨_,rfl⟩;have hnext:=fH ps hlen ho (rV p);rw[<-hR] at hnext;simp only[dT,f1,AE,AQ,nU,rX,rV] at hnext
    exact(zC)<|(zK hnext (hfl:=.inr zw))<|(cP (bu @j8.eq_1 @an.eq_1))<|jZ [.cell 6 46,.tmp 7] (hq:=by rw[show aX c ps e=(R,0) by rw[hR];simp[aX,h1,h2,hM,hg,ho1,ho2,f1,jY,hkd,ho3,ho4,ho5,ho6,ho7,g3,g4,-b6,-du]];rfl)
   refine(aD (wd ho7))<|(zN) ?_
   (try change aG _ _ _ _ _)
   obtain⟨R,hR⟩:∃R,R=Proofs.df ps p:=⟨_,rfl⟩;have hnext:=fH ps hlen ho p;rw[<-hR] at hnext;simp only[dT,f1,AE,AQ,nU,rX,rV] at hnext
   exact(zC)<|(zK hnext (hfl:=.inr zw))<|(cP (bu @j8.eq_1 @an.eq_1))<|jZ [.cell 6 46,.tmp 7] (hq:=by rw[show aX c ps e=(R,0) by rw[hR];simp[aX,h1,h2,hM,hg,ho1,ho2,f1,jY,hkd,ho3,ho4,ho5,ho6,ho7]];rfl)
def sL{a b:List (List Nat)}(h:a.Perm b):ee a=ee b:=by
 have h1:(ee a).Pairwise λa b=>wL a b=true:=Gl a;have h2:(ee b).Pairwise λa b=>wL a b=true:=Gl b;have hp:(ee a).Perm (ee b):=((r9 a).trans h).trans (r9 b).symm;exact Perm.eq_of_pairwise (λa b _ _ h1 h2=>Fw h1 h2) h1 h2 hp
def Hq(ps:List aq)(m:List (List Nat×Int)):Prop:=(∀e∈m,∃(k:Nat) (x:aq),e.2=(k:Int)/\ps[k]?=some x/\x.name=e.1)/\(m.map (·.1)).Nodup
def kV{K U:Type}[DecidableEq K]{k:K}{l:List (K×U)}:dF k l=true↔k∈l.map (·.1):=by
 unfold dF;simp only[b6,wp,mem_map];exact⟨λ⟨e,h1,h2⟩=>⟨e,h1,h2.symm⟩,λ⟨e,h1,h2⟩=>⟨e,h1,h2.symm⟩⟩
def ED{ps:List aq}:∀{l:List aq} {i:Nat} {m:List (List Nat×Int)},ps.drop i=l->Hq ps m->Hq ps (nQ i m l)
 | [],_,_,_,h=>h
 | p::r,i,m,hd,h=>by
  rw[nQ]
  have hp:ps[i]?=some p:=by
   have:=rc (λl=>l[0]?) hd;simpa using this
  have hd2:ps.drop (i+1)=r:=by
   have:=rc (List.drop 1) hd;simpa using this
  refine ED hd2 ?_
  cases hh:dF p.name m with
  | true=>exact h
  | false=>
   simp only[Bool.false_eq_true,if_false];rw[qH hh];refine⟨λe he=>?_,?_⟩
   ·rcases List.mem_append.1 he with he | he
    ·exact h.1 e he
    ·rw[t6 he];exact⟨i,p,rfl,hp,rfl⟩
   ·rw[b8,List.nodup_append];refine⟨h.2,by simp,λa ha b hb=>?_⟩;simp only[bw,List.map_nil,List.mem_singleton] at hb;subst hb;intro e;subst e;rw[kV.2 ha] at hh;cases hh
def CW(ps:List aq)(i:Int):List Nat:=match ps[i.toNat]? with
 | some p=>p.br
 | none=>[]
abbrev jy:=List (List Nat×List Nat)
def jX(ps:List aq)(hd:List (List Nat×Int)):jy:=hd.filterMap λe=>if CW ps e.2=[] then none else some (e.1,CW ps e.2)
def yX{ps:List aq}{hd:List (List Nat×Int)}{k:List Nat}(h:k∈(jX ps hd).map (·.1)):k∈hd.map (·.1):=by
 obtain⟨e,he,rfl⟩:=mem_map.1 h;obtain⟨e',he',h2⟩:=List.mem_filterMap.1 he;split at h2
 ·cases h2
 ·cases h2;exact c6 he'
def jn{ps:List aq}:∀{hd:List (List Nat×Int)},(hd.map (·.1)).Nodup->((jX ps hd).map (·.1)).Nodup
 | [],_=>List.nodup_nil
 | e::hd,h=>by
  rw[bw,d7] at h;unfold jX;rw[List.filterMap_cons];split
  ·exact jn h.2
  ·rename_i b hb;split at hb
   ·cases hb
   ·cases hb;rw[bw,d7];exact⟨λhm=>h.1 (yX hm),jn h.2⟩
def HX{U:Type}{l:List (List Nat×U)}{pos:List Nat}{j:Nat}{e:List Nat×U}(hn:(l.map (·.1)).Nodup)(he:l[j]?=some e)(hj:j∉pos):e.1∉(bn l pos).map (·.1):=by
 intro hm;obtain⟨e',he',h2⟩:=mem_map.1 hm;obtain⟨i,hi,h3⟩:=List.mem_filterMap.1 he'
 have h4:(l.map (·.1))[i]?=some e.1:=by rw[a7,h3];exact rc some h2
 have h5:(l.map (·.1))[j]?=some e.1:=by rw[a7,he];rfl
 exact hj ((List.getElem?_inj (bq h4) hn).1 (h4.trans h5.symm)▸hi)
def dP:Nat->jy->List (List Nat)->List (List Nat)
 | 0,_,_=>[]
 | n+1,r,ls=>if ls=[] then [] else ((r.filter λe=>ls.contains e.2).map (·.1))++dP n (r.filter λe=>!ls.contains e.2) ((r.filter λe=>ls.contains e.2).map (·.1))
def On(ps:List aq)(part:List Nat):jy:=lQ part (jX ps (nQ 0 [] ps))
def fP(ps:List aq)(part:List Nat):List (List Nat):=if dF part (nQ 0 [] ps)=true then ee (dP (ps.length+2) (On ps part) [part]) else []
def nX:∀(n:Nat) {r r':jy} {ls ls':List (List Nat)},r.Perm r'->(∀x,ls.contains x=ls'.contains x)->(ls=[]↔ls'=[])->(dP n r ls).Perm (dP n r' ls')
 | 0,_,_,_,_,_,_,_=>Perm.refl _
 | n+1,r,r',ls,ls',h1,h2,h3=>by
  rw[dP,dP];by_cases h:ls=[]
  ·rw[ut h,ut (h3.1 h)]
  ·rw[v6 h,v6 (λe=>h (h3.2 e))];have e1:(λe:List Nat×List Nat=>ls.contains e.2)=λe=>ls'.contains e.2:=funext λe=>h2 _
   have e2:(λe:List Nat×List Nat=>!ls.contains e.2)=λe=>!ls'.contains e.2:=funext λe=>by rw[h2]
   rw[e1,e2];have p1:=(h1.filter λe=>ls'.contains e.2).map (·.1);have p2:=h1.filter λe=>!ls'.contains e.2;refine p1.append (nX n p2 (λx=>?_) ⟨λe=>?_,λe=>?_⟩)
   ·rw[Bool.eq_iff_iff,cH,cH];exact p1.mem_iff
   ·rw[e] at p1;exact p1.nil_eq.symm
   ·rw[e] at p1;exact p1.eq_nil
def eY(l:List (List Nat)):SO:=if l=[] then .gone else .cells (l.flatMap (aH ah))
def fU{l:List (List Nat)}(h:¬l=[]):eY l=.cells (l.flatMap (aH ah)):=v6 h
def gU:eY []=.gone:=rfl
def fw(o:Nat)(l:List (List Nat)):bF o (eY l)=eY l:=by
 unfold eY;split
 ·rfl
 ·rw[bF];congr 1;exact bQ (aE (λ_=>rfl) l)
def eM(r:Nat->Nat)(l:List (List Nat)):pM r (eY l)=eY l:=by
 unfold eY;split
 ·rfl
 ·rw[Kg];congr 1;exact bp (aE (λ_=>rfl) l)
def Jb{S:List SO}{l:jy}(s u:List Nat)(hS:S[o]?=some (bE AV.str ah l)):ik prog S 123 (.map o) (.a (.str s)) (.a (.str u))=some (S.set o (bE AV.str ah (cy s u l))):=
 Ir (uv:=ah) (kt:=9) (et:=9) (by simp only[aC]) mb hS rfl u
def Aa{S:List SO}{l:jy}(s:List Nat)(hS:S[o]?=some (bE AV.str ah l)):KY prog S 123 (.map o) (.a (.str s))=some (S.set o (bE AV.str ah (lQ s l))):=
 S4 (uv:=ah) (k:=s) (kt:=9) (et:=9) (by simp only[aC]) mb hS rfl
def jL{n:Nat}{l:jy}:bF n (bE AV.str ah l)=bE AV.str ah l:=mr λ_=>l8 _
end Go.Proofs
