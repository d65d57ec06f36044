/- Lemmas of this claim, each with its conditions. -/
import Derived.Test.YtjiejanfnnieaaaGreatA7
import Derived.Test.YtjiejanfnnieaaaGreatA6
import Derived.Test.YtjiejanfnnieaaaGreatA5
import Derived.Test.YtjiejanfnnieaaaGreatA4
import Derived.Test.YtjiejanfnnieaaaGreatA3
import Derived.Test.YtjiejanfnnieaaaGreatA2
import Derived.WalkKit
import Derived.WalkSpells
import Derived.WalkLawsBesides
import Derived.Deep.QuietTactic
import Derived.BigQuiet
import Derived.StillTailTactics
import Derived.Sort.Grow
import Derived.Shelf.SlGeneric
import Derived.Shelf.SlLaysF0
import Derived.Shelf.Small.Strs
import Derived.Shelf.Small.Bits
import Derived.Ground.SlsfProg
import Derived.Ground.NamesProg
import Derived.Test.YtjiejanfnnieaaaGreatProg
import Derived.Shelf.SlSortCmp.Xorshift
import Derived.Shelf.SlSortCmp.InsertionK
import Derived.Shelf.SlSortCmp.WholeK
set_option linter.all false
set_option maxHeartbeats 8000000
open Go.Proofs.Tryz (prog func156 func149 func157 func238 func287 func312 func64 func74 func76)
open List (mem_map map_nil mem_append mem_filter take_zero nil_append cons_append filter_nil foldl_nil Perm)
open Nat renaming reduceLeDiff -> ac, reduceEqDiff -> ad, reduceAdd -> af, reduceLT -> al, reduceMul -> am, le_refl -> ap, reduceSub -> ay, zero_le -> aS, le_trans -> a8, not_lt_zero -> c5, mul_one -> c6, add_zero -> em
open List renaming length_map -> aj, mem_cons_of_mem -> ax, getElem?_map -> a6, nodup_nil -> a7, take_length -> ba, mem_of_getElem? -> bb, mem_cons_self -> bc, length_filter_le -> bd, map_append -> bh, map_cons -> bi, mem_map_of_mem -> bk, nodup_cons -> bt, not_mem_nil -> bw, append_nil -> b4, foldl_append -> b5, foldl_cons -> b6, length_filterMap_le -> b8, take_of_length_le -> b9, mem_cons -> cb, filter_append -> ch, getElem?_eq_none -> ci, pairwise_cons -> cv, flatMap_cons -> c2, filter_cons -> c4, append -> d7, drop_zero -> d8
open And renaming intro -> be
open Bool renaming and_eq_true -> bv, or_eq_true -> cc, true_and -> cd, false_eq_true -> cp, and_true -> c0, not_true -> c1, decide_and -> dv, not_false -> d6, false_or -> el
open Array renaming getElem?_eq_getElem -> b7, eq_empty_of_size_eq_zero -> ca, getElem?_push -> ce, getElem?_modify -> ck, getElem?_toList -> cl, length_toList -> co, size_push -> dy
open Go.Proofs.Tryz renaming ntmps77 -> cn, func77 -> c3, func226 -> dc, func233 -> dd, func237 -> dl, ntmps79 -> dt, func79 -> d9
open Int renaming lt_trichotomy -> ct
namespace Go.Proofs
open Go.Ev
set_option maxRecDepth 100000
def kR{p q:Prop}(h:p->q:=by intro h;(repeat (first | refine qR.ri i4 rfl i4 rfl zl zl (by first | exact trivial | ((simp only[AH])<;>(repeat' apply And.intro)<;>first | exact True.intro | exact .inr rfl | (refine .inr ?_;simp only[dJ,cj,an,aJ,m8,m7,↓reduceIte,Nat.reduceEqDiff,Nat.reduceAdd,Nat.reduceMul,Nat.reduceLeDiff,Nat.reduceLT,ar,az,bT,aY];first | done | rfl) | exact .inl (by kernel_rfl))) ?_ | refine qR.r i4 rfl i4 i4 zl ?_ (by first | exact trivial | ((simp only[AH])<;>(repeat' apply And.intro)<;>first | exact True.intro | exact .inr rfl | (refine .inr ?_;simp only[dJ,cj,an,aJ,m8,m7,↓reduceIte,Nat.reduceEqDiff,Nat.reduceAdd,Nat.reduceMul,Nat.reduceLeDiff,Nat.reduceLT,ar,az,bT,aY];first | done | rfl) | exact .inl (by kernel_rfl))) | refine qR.rg i4 rfl i4 rfl (by intro S_;simp only[dJ,cj,an,aJ,m8,m7,↓reduceIte,Nat.reduceEqDiff,Nat.reduceAdd,Nat.reduceMul,Nat.reduceLeDiff,Nat.reduceLT,ar,az,bT];first | done | rfl) (by first | exact trivial | ((simp only[AH])<;>(repeat' apply And.intro)<;>first | exact True.intro | exact .inr rfl | (refine .inr ?_;simp only[dJ,cj,an,aJ,m8,m7,↓reduceIte,Nat.reduceEqDiff,Nat.reduceAdd,Nat.reduceMul,Nat.reduceLeDiff,Nat.reduceLT,ar,az,bT,aY];first | done | rfl) | exact .inl (by kernel_rfl))) ?_ | refine qR.s i4 rfl i4 rfl ?_ | fail));exact h)(k:p):q:=h k
def kRf{p q r:Prop}(f:r)(h:r->p->q:=by intro f h;(repeat (first | refine qR.ri i4 rfl i4 rfl (rX @f) (rX @f) (by first | exact trivial | ((simp only[AH])<;>(repeat' apply And.intro)<;>first | exact True.intro | exact .inr rfl | (refine .inr ?_;simp only[dJ,cj,an,aJ,m8,m7,↓reduceIte,Nat.reduceEqDiff,Nat.reduceAdd,Nat.reduceMul,Nat.reduceLeDiff,Nat.reduceLT,ar,az,bT,aY,f];first | done | rfl) | exact .inl (by kernel_rfl))) ?_ | refine qR.r i4 rfl i4 i4 (rX @f) ?_ (by first | exact trivial | ((simp only[AH])<;>(repeat' apply And.intro)<;>first | exact True.intro | exact .inr rfl | (refine .inr ?_;simp only[dJ,cj,an,aJ,m8,m7,↓reduceIte,Nat.reduceEqDiff,Nat.reduceAdd,Nat.reduceMul,Nat.reduceLeDiff,Nat.reduceLT,ar,az,bT,aY,f];first | done | rfl) | exact .inl (by kernel_rfl))) | refine qR.rg i4 rfl i4 rfl (by intro S_;simp only[dJ,cj,an,aJ,m8,m7,↓reduceIte,Nat.reduceEqDiff,Nat.reduceAdd,Nat.reduceMul,Nat.reduceLeDiff,Nat.reduceLT,ar,az,bT,f];first | done | rfl) (by first | exact trivial | ((simp only[AH])<;>(repeat' apply And.intro)<;>first | exact True.intro | exact .inr rfl | (refine .inr ?_;simp only[dJ,cj,an,aJ,m8,m7,↓reduceIte,Nat.reduceEqDiff,Nat.reduceAdd,Nat.reduceMul,Nat.reduceLeDiff,Nat.reduceLT,ar,az,bT,aY,f];first | done | rfl) | exact .inl (by kernel_rfl))) ?_ | refine qR.s i4 rfl i4 rfl ?_ | fail));exact h)(k:p):q:=h f k
def kN{p q:Prop}(h:p->q:=by intro h;refine qR.nil ?_;(try change aE _ _ _ _ _);exact h)(k:p):q:=h k
section
variable {P:Program} {ro:Option Nat} {all:List Oper} {ms:List Nat} {n:Nat} {b:Bool} {hp:List Nat} {l:List (Nat×Oper)} {f:Fm} {S:List SO} {K:Fm->List SO->Prop} {i:Nat} {o:Oper} {d:Nat} {f0:Fm} {kl:List (Nat×Nat)} {Q:Ex->eI->Prop}
def kZ{id:Nat}{ops:Array Oper}{st:eI}{ol:List Oper}(ms:List Nat)(h:qR P ro ol ms st.n st.f [] true [] (cT 0 ol) st.f st.S λf' S'=>Q .normal ⟨f',st.n,S',st.ds⟩)(hol:ops.toList=ol:=by rfl)(hms:oE ol []=ms:=by kernel_rfl)(hok:((lf 0 ol&&P.follows .mixedOrders)&&(BU ol ms (cT 0 ol)&&KR ms (cT 0 ol)))=true:=by kernel_rfl):aE P ro (.region id ops true) st Q:=aE.RP hol hms hok h
def kA{f':Fm}{v:SV}{S':List SO}{k:Nat}(T:List Nat)(hst:eG all n [o]=true:=by rfl)(hdst:o.dst=some d:=by rfl)(hw:cO all f o.guard=some true:=by rfl)(hwr:dW o.op=true:=by rfl)(hms:hp.all (λj=>bP (ms.getD i 0) j)=true:=by kernel_rfl)(hT:((KA all ms i).all λt=>T.contains t)=true:=by kernel_rfl)
 (hop:dH P f S o.op=some (v,S',some k):=by exact zl) (hf:eK k f=f':=by simp only[gD,cj,an,↓reduceIte,Nat.reduceEqDiff,Nat.reduceAdd,Nat.reduceSub,Nat.reduceMul,Nat.reduceLeDiff,Nat.reduceLT,eK,ek,cE,aY,dJ];first | done | rfl) (ht:Un f0 f k T:=by (simp only[Un])<;>(repeat' apply And.intro)<;>first | exact True.intro | rfl | (simp only[gD,cj,an,↓reduceIte,Nat.reduceEqDiff,Nat.reduceAdd,Nat.reduceSub,Nat.reduceMul,Nat.reduceLeDiff,Nat.reduceLT,eK,ek,cE,aY,dJ];first | done | rfl)) (hkl:AH ms i v kl:=by first | exact trivial | ((simp only[AH])<;>(repeat' apply And.intro)<;>first | exact True.intro | exact .inr rfl | (refine .inr ?_;simp only[dJ,cj,an,aJ,m8,m7,↓reduceIte,Nat.reduceEqDiff,Nat.reduceAdd,Nat.reduceMul,Nat.reduceLeDiff,Nat.reduceLT,ar,az,bT,aY];first | done | rfl) | exact .inl (by kernel_rfl))) (h:qR P ro all ms n f0 ((i,k)::kl) false hp l ((d,v)::f') S' K):qR P ro all ms n f0 kl b hp ((i,o)::l) f S K:=.a T hst hdst hw hwr hms hT hop hf ht hkl h
end
def sub_eq(a b:wy):fN eC [AV.str a.kind,.str a.slot,.str a.other,.str a.pO,.int .i64 a.to] [AV.str b.kind,.str b.slot,.str b.other,.str b.pO,.int .i64 b.to]=(decide (a.kind=b.kind)&&(decide (a.slot=b.slot)&&(decide (a.other=b.other)&&(decide (a.pO=b.pO)&&decide (a.to=b.to))))):=by
 simp only[fN,eC,AG,sd,j9,cd,c0]
def IC(s:wy)(x y z:List Nat):da prog .eql 147 (.agg [.str s.kind,.str s.slot,.str s.other,.str s.pO,.int .i64 s.to]) (.agg [.str x,.str y,.str z,.str s.pO,.int .i64 s.to])=some (.bool (decide (s.kind=x)&&(decide (s.slot=y)&&decide (s.other=z)))):=
 sN (ks:=[.s,.s,.s,.s,.i .i64]) zW zW (by simp only[aJ,m7]) rfl rfl (by rw[sub_eq s ⟨x,y,z,s.pO,s.to⟩];simp)
def GJ(ps:List ai)(p h:ai)(day:Int)(s:wy)(hlen:ps.length<=1000000):PC prog 68 ([.ag (eB s)]++[.ip (ae h),.ip (ae p++ae h),.ip [ab day],.ip [an 14 ps ae]]) (·=ak ((decide (s.kind=h.kind)&&(decide (s.slot=p.slot)&&decide (s.other=p.kind)))&&(decide (day<=s.to)&&(decide (s.pO=[])||xc ps p s.pO)))):=by
 have heq:=IC s h.kind p.slot p.kind;generalize (decide (s.kind=h.kind)&&(decide (s.slot=p.slot)&&decide (s.other=p.kind)))=g1 at heq;have hb:=Dt ps p h s.pO hlen;refine pB 42 Tryz.func68 ?_;rw[show ae p++ae h=[ah p.name,ah p.kind,ah p.aR,ah p.slot,ab p.made,ab p.since,ak p.bo,an 2 p.props aH,ab p.l1,ab p.l2,ab p.l3,ab p.l4,ab p.l5,ab p.l6,ah h.name,ah h.kind,ah h.aR,ah h.slot,ab h.made,ab h.since,ak h.bo,an 2 h.props aH,ab h.l1,ab h.l2,ab h.l3,ab h.l4,ab h.l5,ab h.l6] from rfl] at hb ⊢
 refine(aw @eB.eq_1)<|(aw (bq @ae.eq_1 @eB.eq_1)) ?_
 cases g1
 ·exact(aw heq)<|zo [.tmp 6]
 cases g2:decide (day<=s.to)
 ·exact(aw (bq heq g2))<|zo [.tmp 6]
 cases g3:decide (s.pO=[]);rotate_left
 ·exact(aw (cG heq g2 g3))<|zo [.tmp 6]
 exact(fb (cG heq g2 g3))<|(zK hb)<|(zR)<|zo [.tmp 6]
abbrev wP(c:List aL)(fE:List wy)(ps:List ai)(part:List Nat)(day:Int):Fm:=[(1,an 5 fE eB),(3,ah part),(5,.ip [an 3 c ao]),(7,.ip [an 14 ps ae]),(9,.ip [ab day])]
def wS(c:List aL)(fE:List wy)(ps:List ai)(part:List Nat)(day:Int)(hc:mr c)(hsub:fE.length<=1000000)(hlen:ps.length<=1000000):PC prog 23 [.ag [an 3 c ao],an 5 fE eB,.ag [an 14 ps ae],ah part,ab day] (·=ak (ku c fE ps part day)):=by
 have hf:=gb ps part hlen;have hs8:∀k∈c,k.bJ.length<=1000000/\∀s∈k.bJ,s.kinds.length<=1000000:=λk hk=>⟨(hc.kind k hk).2,λs hs=>(hc.slot k hk s hs).2⟩;unfold ku
 refine pB 56 Tryz.func23 ?_;refine(zV) ?_;refine zZ [(1,an 5 fE eB),(3,ah part),(5,.ip [an 3 c ao]),(7,.ptr 1 0),(9,.ptr 2 0)] 0 rfl (gu @an.eq_1)<|zZ [(1,an 5 fE eB),(3,ah part),(5,.ip [an 3 c ao]),(7,.ip [an 14 ps ae]),(9,.ptr 2 0)] 1 rfl (gu @an.eq_1)<|zZ (wP c fE ps part day) 2 rfl (gu @an.eq_1)<|zA (wP c fE ps part day) [] zH<|(zC) ?_;refine aT.k i4 rfl rfl i4 rfl zc (hf) (zw) (.inr (bg.refl (by cases bD ps part<;>rfl))) ?_
 cases hm:bD ps part with
 | none=>
  exact(cJ (cG @iV.eq_1 @ae.eq_1 @ai.zero.eq_1))<|(wY)<|(zV)<|zo [.tmp 10]
 | some p=>
  have hf2:=gb ps p.aR hlen;refine(cJ (bq @iV.eq_1 @ae.eq_1)) ?_;cases g1:decide (p.aR=[]);rotate_left
  ·exact(aw g1)<|(cF)<|zo [.tmp 10] (hq:=by show _=ak (if p.aR=[] then true else _);rw[ut (ww g1)])
  refine(aw g1)<|(zN) ?_;refine zZ ((11,.ip (ae p))::wP c fE ps part day) 0 rfl (gu (bq @an.eq_1 @ae.eq_1))<|zA ((11,.ip (ae p))::wP c fE ps part day) [] zH<|(fb @ae.eq_1) ?_;refine aT.k i4 rfl rfl i4 rfl zc (hf2) (zw) (.inr (bg.refl (by cases bD ps p.aR<;>rfl))) ?_
  cases hm2:bD ps p.aR with
  | none=>
   exact(cJ (cG @iV.eq_1 @ae.eq_1 @ai.zero.eq_1))<|(aw @ae.eq_1)<|(zB)<|(wY)<|(zV)<|zo [.tmp 10] (hq:=by show _=ak (if p.aR=[] then true else _);rw[v6 (wt g1),hm2])
  | some h=>
   refine(cJ (bq @iV.eq_1 @ae.eq_1)) ?_;refine zZ ((13,.ip (ae h))::(12,ak true)::(11,.ip (ae p))::wP c fE ps part day) 0 rfl (gu (bq @an.eq_1 @ae.eq_1))<|zA ((13,.ip (ae h))::(12,ak true)::(11,.ip (ae p))::wP c fE ps part day) [] zH<|(aw @ae.eq_1) ?_;refine zZ ((14,.ip (ae p++ae h))::(13,.ip (ae h))::(12,ak true)::wP c fE ps part day) 0 rfl (gu (bq @an.eq_1 @ae.eq_1))<|zA ((14,.ip (ae p++ae h))::(13,.ip (ae h))::(12,ak true)::wP c fE ps part day) [] zH ?_
   have hs:=D2 (l:=fE) (λs=>(decide (s.kind=h.kind)&&(decide (s.slot=p.slot)&&decide (s.other=p.kind)))&&(decide (day<=s.to)&&(decide (s.pO=[])||xc ps p s.pO))) (fid:=68) (first:=[]) (cap:=[.ip (ae h),.ip (ae p++ae h),.ip [ab day],.ip [an 14 ps ae]]) hsub (λs _=>GJ ps p h day s hlen) ⟨rfl,rfl⟩
   refine(zB)<|(Ec)<|(fb (cG @ae.eq_1 @cons_append.{0} @nil_append.{0}))<|(zK (DP c h.kind p.slot p.kind hc.len hs8)) ?_
   cases hn:rl c h.kind p.slot p.kind
   ·exact(zR)<|(Mj)<|(zK hs)<|(zR)<|zo [.tmp 10] (hq:=by show _=ak (if p.aR=[] then true else _);rw[v6 (wt g1),hm2];show _=ak (rl c h.kind p.slot p.kind||_);rw[hn];rfl)
   ·exact(zR)<|(cF)<|zo [.tmp 10] (hq:=by show _=ak (if p.aR=[] then true else _);rw[v6 (wt g1),hm2];show _=ak (rl c h.kind p.slot p.kind||_);rw[hn];rfl)
structure Cf (d:dZ):Prop where
 name:fc d.name
 kind:fc d.kind
 key:fc d.key
def IB(d:dZ)(hd:Cf d):PC prog 146 [.ag (bj d)] (·=ak (rK d)):=by
 refine pB 43 Tryz.func146 ?_;unfold rK
 refine(aw @bj.eq_1) ?_;refine zZ [(1,.ip (bj d))] 0 rfl (gu @bj.eq_1)<|zA [(1,.ip (bj d))] [] zH<|(fb @bj.eq_1)<|(zK (dS d.name hd.name)) ?_
 cases cH d.name
 ·exact(zR)<|zo [.tmp 2]
 refine(Mk @bj.eq_1)<|(zK (dS d.kind hd.kind)) ?_
 cases cH d.kind
 ·exact(zR)<|zo [.tmp 2]
 refine(Mk @bj.eq_1)<|(zK (dS d.key hd.key)) ?_
 cases cH d.key
 ·exact(zR)<|zo [.tmp 2]
 cases g1:decide (1<=d.after)
 ·exact(cJ (bq g1 @bj.eq_1))<|zo [.tmp 2]
 cases g2:decide (d.after<=7)
 ·exact(cJ (cG g1 g2 @bj.eq_1))<|zo [.tmp 2]
 cases g3:decide (0<=d.within)
 ·exact(cJ (gm g1 g2 g3 @bj.eq_1))<|zo [.tmp 2]
 ·exact(cJ (gm g1 g2 g3 @bj.eq_1))<|zo [.tmp 2]
def L7(e:bu)(part:List Nat)(day:Int):PC prog 228 ([.ag (aq e)]++[.ip [ah part],.ip [ab day]]) (·=ak (LA part day e)):=by
 refine pB 15 Tryz.func228 ?_;unfold LA;rw[dj];refine(zV) ?_;cases g1:decide (e.part=part)
 ·exact(aw g1)<|zo [.tmp 4]
 ·exact(aw g1)<|zo [.tmp 4]
def GH(e:bu)(d:dZ):PC prog 230 ([.ag (aq e)]++[.ip (bj d)]) (·=ak (decide (e.op=6)&&decide (e.key=d.key))):=by
 refine pB 15 Tryz.func230 ?_;rw[dj];refine(zV) ?_;cases g1:decide (e.op=6)
 ·exact(aw g1)<|zo [.tmp 3]
 ·exact(aw (bq g1 @bj.eq_1))<|zo [.tmp 3]
def Gh(e:bu)(d:dZ):PC prog 231 ([.ag (aq e)]++[.ip (bj d)]) (·=ak (decide (e.op=d.after))):=by
 refine pB 10 Tryz.func231 ?_;rw[dj]
 exact(zV)<|(aw @bj.eq_1)<|zo [.tmp 3]
def L3(n b:Int)(d:dZ)(hb:0<=b/\b<=40000)(hw:0<=d.within/\d.within<=40000):PC prog 232 ([ab n]++[.ip [ab b],.ip (bj d)]) (·=ak (decide (b<=n)&&decide (n<=b+d.within))):=by
 refine pB 17 Tryz.func232 ?_;refine(zV) ?_;cases g1:decide (b<=n)
 ·exact(aw g1)<|zo [.tmp 4]
 ·exact(aw (cG g1 @bj.eq_1 (Ee (P:=prog) (t:=3) (show -9223372036854775808<=b+d.within/\b+d.within<=9223372036854775807 from⟨by omega,by omega⟩))))<|zo [.tmp 4]
structure nd where
 f:SV
 p:bu->Bool
def kL(c:nd):List SV:=[c.f]
def nd.ok(c:nd):Prop:=∃g cap,c.f=.fn g [] cap/\bW cap=true/\∀e,PC prog g ([.ag (aq e)]++cap) (·=ak (c.p e))
def Gm(c:nd)(hc:c.ok)(e:bu):PC prog 283 ([c.f]++[.ip (aq e)]) (·=ak (!(c.p e))):=by
 obtain⟨g,cap,h1,h2,h3⟩:=hc;have h3:=h3 e;have hk2:∀o:Nat,cap.map (aY o)=cap:=λo=>bR h2;have hn2:∀o:Nat,e8 o cap=false:=λo=>bV h2;rw[h1];refine pB 8 Tryz.func283 ?_;rw[dj] at h3 ⊢
 exact(jt)<|(zK h3 (hwk:=.cons (.ag (bg.refl rfl)) (bg.refl h2)))<|(zR)<|zo [.tmp 3]
def IS{l:List nd}(e:bu)(hlen:l.length<=1000000)(hok:∀c∈l,c.ok):PC prog 313 [an 1 l kL,.fn 283 [] [.ip (aq e)]] (·=ab (fR (λc=>!(c.p e)) l)):=by
 refine pB 19 Tryz.func313 ?_;refine(aw @an.eq_1)<|(zV)<|(zs) ?_;refine zL l (λk=>∀(i:Nat) y,i<k->l[i]?=some y->(!(y.p e))=false) (λk=>[(0,.sl l.length 1 (l.flatMap kL)),(1,.fn 283 [] [.ip (aq e)]),(7,ab l.length),(8,ab k)]) (λk=>[]) zH zp ?_;intro k hk hall;refine zT l k ?_ ?_;rintro rfl;rotate_left;intro x hx hlt;rotate_left
 ·exact(gh)<|(zV)<|zo [.tmp 4] (hq:=by rw[ig hall])
 ·have hxo:=hok x (bb hx);have hd1:=Gm x hxo e;obtain⟨g,cap,h1,h2,_⟩:=hxo;have hxl:=aQ (e:=1) (enc:=kL) (λ_=>rfl) hx;have hn2:∀o:Nat,e8 o cap=false:=λo=>bV h2;rw[show kL x=[x.f] from rfl,h1] at hxl;rw[h1] at hd1
  refine(gB)<|(zV)<|(fb (bq hlt hxl))<|(zK hd1 (hwk:=.cons (.fn .nil (bg.refl h2)) (bg.refl rfl))) ?_;refine aT.nil ?_
  change aE _ _ _ _ _;cases hpx:x.p e
  ·exact(cF)<|zo [.tmp 4] (hq:=by rw[lR (p:=λc=>!(c.p e)) hx (by rw[hpx];rfl) hall])
  ·refine(zN)<|(aw (zi hlt hlen)) ?_;refine zX hlt zH ?_
   intro i y hi hy;by_cases hik:i=k
   ·subst hik;rw[hx] at hy;cases hy;rw[hpx];rfl
   ·exact hall i y i5 hy
def Iz{l:List nd}(e:bu)(hlen:l.length<=1000000)(hok:∀c∈l,c.ok):PC prog 282 [an 1 l kL,.fn 283 [] [.ip (aq e)]] (·=ak (l.any λc=>!(c.p e))):=by
 refine pB 9 Tryz.func282 ?_;exact(jt)<|(zK (IS (l:=l) e hlen hok))<|(zR)<|zo [.tmp 4] (hq:=by rw[nq])
def vI(conds:List nd)(e:bu):Bool:=!(conds.any λc=>!(c.p e))
def gw(conds:List nd)(l:List bu):List Int:=(l.filter (vI conds)).map bu.day
def KY{conds:List nd}{l:List bu}{k:Nat}{x:bu}(h:l[k]?=some x):gw conds (l.take (k+1))=gw conds (l.take k)++(if vI conds x=true then [x.day] else []):=by
 unfold gw;rw[cD h,ch,bh];cases hp:vI conds x<;>simp[hp]
def z6(l:List bu)(conds:List nd)(hlen:l.length<=100000)(hcl:conds.length<=1000000)(hok:∀c∈conds,c.ok):PC prog 229 [an 14 l aq,an 1 conds kL] (·=an 1 (gw conds l) (aB ab)):=by
 refine pB 25 Tryz.func229 ?_
 have hlenl:l.length<=1000000:=by omega
 refine(oa)<|(zV)<|(zs) ?_;refine zL l (λk=>True) (λk=>[(1,an 1 conds kL),(5,bZ 2 1 (gw conds (l.take k)).length),(8,an 14 l aq),(9,ab l.length),(10,ab k)]) (λk=>O8 2 (gw conds (l.take k)) (aB ab)) (bX (lM @take_zero.{0} (show gw conds []=[] from rfl) @i7.{0} @ly @Qb)) zp ?_;intro k hk hall;refine zT l k ?_ ?_;rintro rfl;rotate_left;intro x hx hlt;rotate_left
 ·refine(gh) ?_;rw[ba]
  exact(zV)<|zo [.tmp 4] (r:=an 1 (gw conds l) (aB ab)) (hw:=QY (enc:=aB ab) (e:=1) (λ_=>rfl) (λ_=>rfl) (gw conds l))
 have hsn:=KY (conds:=conds) hx;have hxl:=aQ (e:=14) (enc:=aq) (λ_=>rfl) hx
 have hol:(gw conds (l.take k)).length<=k:=by
  unfold gw;rw[aj];exact a8 (bd _ _) (by rw[List.length_take];omega)
 generalize hO:gw conds (l.take k)=out at hol hsn;have hfl:=aZ (enc:=aB ab) (e:=1) (λ_=>rfl) out;have hkc:=λo=>bC (enc:=aB ab) (λ_=>rfl) o out;have hcf:=Iz x hcl hok;refine(gB) ?_;by_cases hk0:out=[]
 ·rw[show O8 2 out (aB ab)=[] by rw[hk0];rfl,show bZ 2 1 out.length=bG by rw[hk0];rfl]
  refine(aw (cG hlt hxl @aq.eq_1))<|zA [(1,an 1 conds kL),(5,bG),(7,.ptr 0 0),(8,an 14 l aq),(9,ab l.length),(10,ab k)] [.cells (aq x)] zH ?_;refine zZ [(1,an 1 conds kL),(5,bG),(7,.ip (aq x)),(8,an 14 l aq),(9,ab l.length),(10,ab k)] 0 rfl ⟨.inl rfl,.inl rfl,.inr (.ptr rfl (bg.refl (bN x)) (by rw[cA];decide)),zj⟩<|zA [(1,an 1 conds kL),(5,bG),(7,.ip (aq x)),(8,an 14 l aq),(9,ab l.length),(10,ab k)] [.gone] zH<|(zC)<|(zK hcf (hfl:=.inr (bg.refl rfl)))<|(cJ (show(!(conds.any λc=>!c.p x))=vI conds x from rfl)) ?_
  cases hpp:vI conds x
  ·rw[hpp,v6 ii,b4] at hsn;refine(zN) ?_
   have f1:bZ 2 1 (gw conds (l.take (k+1))).length=bG:=by rw[hsn,hk0];rfl
   have f2:O8 2 (gw conds (l.take (k+1))) (aB ab)=[]:=by rw[hsn,hk0];rfl
   refine(aw (zi hlt hlenl)) ?_;refine zX hlt (bX (bq f1 f2)) trivial
  ·rw[hpp,ut rfl] at hsn;refine(zY) ?_
   have f1:bZ 2 1 (gw conds (l.take (k+1))).length=.buf 2 1 1 none:=by rw[hsn,hk0];rfl
   have f2:O8 2 (gw conds (l.take (k+1))) (aB ab)=[.gone,.gone,.cells [ab x.day]]:=by rw[hsn,hk0];rfl
   refine(aw @dj)<|(aw (zi hlt hlenl)) ?_;refine zX hlt (bX (bq f1 f2)) trivial
 ·have hk1:¬out.length=0:=λh=>hk0 (t8 h);rw[NV hk0,ef hk1]
  refine(aw (gm hlt hxl @aq.eq_1 QE))<|zA [(1,an 1 conds kL),(5,.buf 2 out.length 1 none),(7,.ptr 3 0),(8,an 14 l aq),(9,ab l.length),(10,ab k)] [.gone,.gone,.cells (out.flatMap (aB ab)),.cells (aq x)] (bX hkc) ?_;refine zZ [(1,an 1 conds kL),(5,.buf 2 out.length 1 none),(7,.ip (aq x)),(8,an 14 l aq),(9,ab l.length),(10,ab k)] 3 rfl ⟨.inl rfl,.inl rfl,.inr (.ptr rfl (bg.refl (bN x)) (by rw[cA];decide)),zj⟩<|zA [(1,an 1 conds kL),(5,.buf 2 out.length 1 none),(7,.ip (aq x)),(8,an 14 l aq),(9,ab l.length),(10,ab k)] [.gone,.gone,.cells (out.flatMap (aB ab))] zH<|(zC)<|(zK hcf (hfl:=.inr (bg.refl rfl)))<|(cJ (show(!(conds.any λc=>!c.p x))=vI conds x from rfl)) ?_
  cases hpp:vI conds x
  ·rw[hpp,v6 ii,b4] at hsn;refine(zN) ?_
   have f1:bZ 2 1 (gw conds (l.take (k+1))).length=.buf 2 out.length 1 none:=by rw[hsn,ef hk1]
   have f2:O8 2 (gw conds (l.take (k+1))) (aB ab)=[.gone,.gone,.cells (out.flatMap (aB ab))]:=by rw[hsn,NV hk0];rfl
   refine(aw (zi hlt hlenl)) ?_;refine zX hlt (bX (bq f1 f2)) trivial
  ·rw[hpp,ut rfl] at hsn;refine(zY) ?_
   have f1:bZ 2 1 (gw conds (l.take (k+1))).length=.buf 2 (out.length+1) 1 none:=by rw[hsn,md];rfl
   have f2:O8 2 (gw conds (l.take (k+1))) (aB ab)=[.gone,.gone,.cells ((out++[x.day]).flatMap (aB ab))]:=by rw[hsn,NW];rfl
   have happ:=mb (enc:=aB ab) (e:=1) (λ_=>rfl) (λ_=>rfl) 2 out x.day;rw[show aB ab x.day=[ab x.day] from rfl] at happ
   refine(aw (EG @dj hfl hkc QE (show out.length<=1000000 by omega) @ap happ))<|(aw (zi hlt hlenl)) ?_;refine zX hlt (bX (bq f1 f2)) trivial
def G4:de prog 108=some .eb:=by kernel_rfl
def Dc(part:List Nat)(day:Int):nd:=⟨.fn 228 [] [.ip [ah part],.ip [ab day]],LA part day⟩
def FL(d:dZ):nd:=⟨.fn 230 [] [.ip (bj d)],λe=>decide (e.op=6)&&decide (e.key=d.key)⟩
def xQ(d:dZ):nd:=⟨.fn 231 [] [.ip (bj d)],λe=>decide (e.op=d.after)⟩
def J5(part:List Nat)(day:Int):(Dc part day).ok:=⟨_,_,rfl,rfl,λe=>L7 e part day⟩
def NU(d:dZ):(FL d).ok:=⟨_,_,rfl,rfl,λe=>GH e d⟩
def KG(d:dZ):(xQ d).ok:=⟨_,_,rfl,rfl,λe=>Gh e d⟩
def EK(a b:nd)(l:List bu):gw [a,b] l=(l.filter λe=>a.p e&&b.p e).map bu.day:=by
 unfold gw;refine rg _ (List.filter_congr λe _=>?_);unfold vI;cases h1:a.p e<;>cases h2:b.p e<;>simp[h1,h2]
def Hz(d:dZ)(l:List bu)(part:List Nat)(day:Int):gw [Dc part day,FL d] l=C5 d l part day:=EK _ _ _
def EJ(d:dZ)(l:List bu)(part:List Nat)(day:Int):gw [Dc part day,xQ d] l=qU d l part day:=EK _ _ _
def sS(p:bu->Bool)(l:List bu):((l.filter p).map bu.day).length<=l.length:=by rw[List.length_map];exact List.length_filter_le _ _
def IV(d:dZ)(l:List bu)(part:List Nat)(day:Int)(hlen:l.length<=100000)(hw:0<=d.within/\d.within<=40000)(hbd:∀n∈qU d l part day,0<=n/\n<=40000):PC prog 147 [.ag (bj d),an 14 l aq,ah part,ab day] (·=.cm [ab (lF d l part day).1,ak (lF d l part day).2]):=by
 have hd1:=z6 l [Dc part day,FL d] hlen gt (by intro c hc;rcases t7 hc with rfl | hc;exact J5 _ _;rw[t6 hc];exact NU _);have hd2:=z6 l [Dc part day,xQ d] hlen gt (by intro c hc;rcases t7 hc with rfl | hc;exact J5 _ _;rw[t6 hc];exact KG _);rw[Hz] at hd1;rw[EJ] at hd2;have hnl:(C5 d l part day).length<=l.length:=sS _ _;have hbl:(qU d l part day).length<=l.length:=sS _ _;refine pB 57 Tryz.func147 ?_;unfold lF;generalize C5 d l part day=notes at hd1 hnl ⊢;generalize qU d l part day=begins at hd2 hbl hbd ⊢
 have hlenb:begins.length<=1000000:=by omega
 refine(aw @bj.eq_1) ?_;refine zZ [(1,an 14 l aq),(4,.ip (bj d)),(6,.ptr 1 0),(7,.ptr 2 0)] 0 rfl (gu (bq @an.eq_1 @bj.eq_1))<|zZ [(1,an 14 l aq),(4,.ip (bj d)),(6,.ip [ah part]),(7,.ptr 2 0)] 1 rfl (gu (bq @an.eq_1 @bj.eq_1))<|zZ [(1,an 14 l aq),(4,.ip (bj d)),(6,.ip [ah part]),(7,.ip [ab day])] 2 rfl (gu (bq @an.eq_1 @bj.eq_1))<|zA [(1,an 14 l aq),(4,.ip (bj d)),(6,.ip [ah part]),(7,.ip [ab day])] [] zH<|(zV)<|(fb (gm @G4 (show AV.eb.cells=[AV.eb] from rfl) @aY.eq_1 @e8.eq_1)) ?_;refine oZ [(22,an 1 [Dc part day,FL d] kL),(19,an 14 l aq),(10,.fn 228 [] [.ip [ah part],.ip [ab day]]),(1,an 14 l aq),(4,.ip (bj d))] 0 rfl ⟨.inr (.buf rfl (bg.refl rfl) (ap _)),zj⟩<|oA [(22,an 1 [Dc part day,FL d] kL),(19,an 14 l aq),(10,.fn 228 [] [.ip [ah part],.ip [ab day]]),(1,an 14 l aq),(4,.ip (bj d))] [] zH<|(zK hd1 (hfl:=.inr (bg.refl rfl)))<|(zR)<|(zV)<|(fb (gm @G4 (show AV.eb.cells=[AV.eb] from rfl) @aY.eq_1 @e8.eq_1)) ?_;refine oZ [(27,an 1 [Dc part day,xQ d] kL),(24,an 14 l aq),(10,.fn 228 [] [.ip [ah part],.ip [ab day]]),(1,an 14 l aq),(4,.ip (bj d)),(11,an 1 notes (aB ab)),(12,ab 0),(13,ak false)] 0 rfl ⟨.inr (.buf rfl (bg.refl rfl) (ap _)),zj⟩<|oA [(27,an 1 [Dc part day,xQ d] kL),(24,an 14 l aq),(10,.fn 228 [] [.ip [ah part],.ip [ab day]]),(1,an 14 l aq),(4,.ip (bj d)),(11,an 1 notes (aB ab)),(12,ab 0),(13,ak false)] [] zH<|(zK hd2 (hfl:=.inr (bg.refl rfl)))<|(zR)<|(zs) ?_;refine Hf begins (λk (aa:Int×Bool)=>0<=aa.1/\aa=(begins.take k).foldl (qv d notes) (0,false)) (λk aa=>[(4,.ip (bj d)),(11,an 1 notes (aB ab)),(12,ab aa.1),(13,ak aa.2),(28,an 1 begins (aB ab)),(29,ab begins.length),(30,ab k)]) (λk aa=>[]) ((0,false)) zH (by exact⟨Int.le_refl _,rfl⟩) ?_;intro k aa hk hall;refine zT begins k ?_ ?_;rintro rfl;rotate_left;intro x hx hlt;rotate_left
 ·refine(gh) ?_;obtain⟨_,haa⟩:=hall;rw[ba] at haa;rw[<-haa]
  exact(zV)<|jW [.tmp 8,.tmp 9]
 have hst:(begins.take (k+1)).foldl (qv d notes) (0,false)=qv d notes aa x:=by rw[cD hx,b5,<-hall.2];rfl
 obtain⟨hx0,hx1⟩:=hbd x (bb hx);have hct:=vR (l:=notes) (λn=>decide (x<=n)&&decide (n<=x+d.within)) (fid:=232) (first:=[]) (cap:=[.ip [ab x],.ip (bj d)]) i5 (λn _=>L3 n x d ⟨hx0,hx1⟩ hw) ⟨rfl,rfl⟩;rw[qv] at hst;generalize (notes.any λn=>decide (x<=n)&&decide (n<=x+d.within))=met at hct hst
 refine(gB)<|(aw (cG hlt (aQ (e:=1) (enc:=aB ab) (λ_=>rfl) hx) @aB.eq_1))<|zA [(4,.ip (bj d)),(11,an 1 notes (aB ab)),(12,ab aa.1),(13,ak aa.2),(15,.ptr 0 0),(28,an 1 begins (aB ab)),(29,ab begins.length),(30,ab k)] [.cells [ab x]] zH ?_;refine zZ [(4,.ip (bj d)),(11,an 1 notes (aB ab)),(12,ab aa.1),(13,ak aa.2),(15,.ip [ab x]),(28,an 1 begins (aB ab)),(29,ab begins.length),(30,ab k)] 0 rfl ⟨.inl rfl,.inl rfl,.inl rfl,.inl rfl,.inr (.ptr rfl (bg.refl rfl) (aS _)),zj⟩<|zA [(4,.ip (bj d)),(11,an 1 notes (aB ab)),(12,ab aa.1),(13,ak aa.2),(15,.ip [ab x]),(28,an 1 begins (aB ab)),(29,ab begins.length),(30,ab k)] [] zH<|(zC)<|(zK hct)<|(zR)<|(aw (bq @bj.eq_1 (Ee (P:=prog) (t:=3) (show -9223372036854775808<=x+d.within/\x+d.within<=9223372036854775807 from⟨by omega,by omega⟩)))) ?_
 cases met;rotate_left
 ·simp only[c1,Bool.false_and,cp,↓reduceIte] at hst
  refine(Ec)<|(aw (zi hlt hlenb)) ?_;refine wq hlt (aa) zH (⟨hall.1,hst.symm⟩)
 obtain⟨a,fd⟩:=aa;cases fd
 ·simp only[d6,cd,Bool.true_or,↓reduceIte] at hst
  refine(wY)<|(zV)<|(aw (zi hlt hlenb)) ?_;refine wq hlt ((x+d.within,true)) zH (⟨by show 0<=x+d.within;omega,hst.symm⟩)
 simp only[d6,c1,cd,el] at hst;cases g1:decide (x+d.within<a)
 ·simp only[g1,cp,↓reduceIte] at hst
  refine(aw g1)<|(zN)<|(aw (zi hlt hlenb)) ?_;refine wq hlt ((a,true)) zH (⟨hall.1,hst.symm⟩)
 ·simp only[g1,↓reduceIte] at hst
  refine(aw g1)<|(cF)<|(aw (zi hlt hlenb)) ?_;refine wq hlt ((x+d.within,true)) zH (⟨by show 0<=x+d.within;omega,hst.symm⟩)
def pV(c:List aL):Nat->List bu->List ai->List ai×Int×Int
 | _,[],s=>(s,-1,0)
 | i,e::r,s=>if (aO c s e).2=0 then pV c (i+1) r (aO c s e).1 else ([],(i:Int),(aO c s e).2)
def Kv{c:List aL}{dmg:bx}:∀(l:List bu) (i:Nat) (s:List ai),(pV c i l s).1=(JJ false c dmg l s).1/\(pV c i l s).2.2=(JJ false c dmg l s).2
 | [],_,_=>⟨rfl,rfl⟩
 | e::r,i,s=>by
  rw[pV,JJ];split
  ·rw[v6 gt];exact Kv r (i+1) _
  ·exact⟨rfl,rfl⟩
def Fy(lc:jy)(ok:Bool):SO:=.loop lc (cond ok .ready .done) (cond ok none (some .ret)) [(4,.ptr 1 0),(5,.ptr 2 0),(6,.ptr 3 0),(7,.ptr 4 0),(8,.ptr 5 0)]
def yF(o:Nat)(lc:jy)(ok:Bool)(h:5<o):cE o (Fy lc ok)=Fy lc ok:=by
 have h1:¬1=o:=by omega
 have h2:¬2=o:=by omega
 have h3:¬3=o:=by omega
 have h4:¬4=o:=by omega
 have h5:¬5=o:=by omega
 simp[Fy,cE,eK,aY,Ev.names,e8,h1,h2,h3,h4,h5]
def uO:Code->Option (Code×Code)
 | .seq a b=>match uO a with
  | some x=>some x
  | none=>uO b
 | .block _ c=>uO c
 | .rangeFunc _ _ a b=>some (a,b)
 | _=>none
def wZ(lc:jy):Prop:=(prog.funcs[(226:Nat)]?.bind λfn=>fn.body.bind uO)=some (lc.a,lc.b)
abbrev C6(lc:jy)(ps:List ai)(k:Nat):List SO:=[Fy lc true,.cells [an 14 ([]:List ai) ae],.cells [ab 0],.cells [ab 0],.cells [an 14 ps ae],.cells [ab k]]
abbrev pR:Fm:=[(1000000,.ptr 0 0),(1000001,.ptr 1 0),(1000002,.ptr 2 0),(1000003,.ptr 3 0),(1000004,.ptr 4 0),(1000005,.ptr 5 0)]
def Rm:∀i,i<6->i∉([]:List Nat)->aP pR (1000000+i)=.ptr i 0:=by
 rintro(_ | _ | _ | _ | _ | _ | i) h _
 all_goals first
  | rfl
  | (exfalso;omega)
def D6(c:List aL)(ev:List bu)(lc:jy)(hcd:wZ lc)(hln:lc.n=30)(hlp:lc.ps=#[19,20])(hc:mr c)(hlen:ev.length<20)(hkm:∀e∈ev,lK e):
 SC prog 312 [.a (.fn (.yield lc.id) [] []),.ip [an 14 ev aq],.ip [an 3 c ao]] (C6 lc [] 0) [] (λr S'=>r=.cm []/\((pV c 0 ev []).2.2=0/\(pV c 0 ev []).2.1 = -1/\S'=C6 lc (pV c 0 ev []).1 ev.length\/(pV c 0 ev []).2.2≠0/\(pV c 0 ev []).1=[]/\∃ps k,S'=[Fy lc false,.cells [an 14 ([]:List ai) ae],.cells [ab (pV c 0 ev []).2.1],.cells [ab (pV c 0 ev []).2.2],.cells [an 14 ps ae],.cells [ab k]])):=by
 refine SC.body (n:=33) dr func312 rfl rfl ii (W:=pR) rfl ?_;have hk6:=λok=>yF 6 lc ok ii;have hk7:=λok=>yF 7 lc ok ii;have hk8:=λok=>yF 8 lc ok ii
 have hlen1:ev.length<=1000000:=by omega
 refine(zs) ?_;refine aE.r0 i4 (by simp only[dJ,cj,an,aJ,m8,m7,↓reduceIte,ad,af,am,ac,al,ar,az,bT,↓hk6,an];first | done | rfl) ?_;refine(zs) ?_;refine aE.r0 i4 (by simp only[dJ,cj,an,aJ,m8,m7,↓reduceIte,ad,af,am,ac,al,ar,az,bT,↓hk6,an];first | done | rfl) ?_;refine zA ((11,ab 0)::(0,.a (.fn (.yield lc.id) [] []))::(1,.ip [an 14 ev aq])::(2,.ip [an 3 c ao])::(4,.ptr 6 0)::(9,an 14 ev aq)::(10,ab ev.length)::pR) [Fy lc true,.cells [an 14 ([]:List ai) ae],.cells [ab 0],.cells [ab 0],.cells [an 14 ([]:List ai) ae],.cells [ab 0],.cells [.a (.slice none 0 0 (some 0))]] zH ?_;refine aE.fg (Fg.TD (S':=[Fy lc true,.cells [an 14 ([]:List ai) ae],.cells [ab 0],.cells [ab 0],.cells [an 14 ([]:List ai) ae],.cells [ab 0],.cells [an 14 ([]:List ai) ae]]) ⟨.inr ⟨by simp,.inl rfl⟩,.inr ⟨by simp,.inl rfl⟩,.inr ⟨by simp,.inl rfl⟩,.inr ⟨by simp,.inl rfl⟩,.inr ⟨by simp,.inl rfl⟩,.inr ⟨by simp,.inl rfl⟩,.inr ⟨by simp,.inr ⟨_,_,rfl,rfl,.cons (.nil _) .nil⟩⟩,trivial⟩) ?_
 (try change aE _ _ _ _ _)
 refine(zs) ?_;refine Hf ev (λk (ps:List ai)=>(pV c 0 ev []=pV c k (ev.drop k) ps/\(∀p∈ps,fj p)/\ps.length<=k)) (λk ps=>(11,ab k)::(0,.a (.fn (.yield lc.id) [] []))::(1,.ip [an 14 ev aq])::(2,.ip [an 3 c ao])::(4,.ptr 6 0)::(9,an 14 ev aq)::(10,ab ev.length)::pR) (λk ps=>C6 lc ps k++[.cells [an 14 ps ae]]) ([]) zH (by exact⟨rfl,(λp hp=>by cases hp),ap _⟩) ?_;intro k ps hk hall;refine zT ev k ?_ ?_;rintro rfl;rotate_left;intro e hx hlt;rotate_left
 ·refine(zN) ?_;obtain⟨hr,_,_⟩:=hall;rw[List.drop_length] at hr;refine zA pR (C6 lc ps ev.length) zH ?_;refine aE.exit ?_
  (try simp only[eQ,cX,bU,bK,if_true])
  exact KD.of (rs:=[]) rfl rfl rfl ⟨rfl,.inl (by rw[hr];exact⟨rfl,rfl,rfl⟩)⟩ (ap _) Rm
 obtain⟨hr,hps,hpl⟩:=hall;rw[eR hx] at hr;have heo:=hkm e (bb hx);have hap:=zJ c ps e hc i5 hps heo;obtain⟨q1,q2,q3,q4⟩:=om (c:=c) hps heo;rw[pV] at hr;obtain⟨nx,er,hne⟩:∃nx er,aO c ps e=(nx,er):=⟨_,_,rfl⟩;rw[hne] at hap q1 q2 q3 q4 hr;simp only at q1 q2 q3 q4 hr;rw[dj] at hap
 refine(gB)<|(zs) ?_;refine aE.r0 i4 (by simp only[dJ,cj,an,aJ,m8,m7,↓reduceIte,ad,af,am,ac,al,ar,az,bT,↓hk7,hlt,aQ (e:=14) (enc:=aq) (λ_=>rfl) hx,dj];first | done | rfl) ?_;refine zZ ((6,.ip (eA e))::(11,ab k)::(0,.a (.fn (.yield lc.id) [] []))::(1,.ip [an 14 ev aq])::(2,.ip [an 3 c ao])::(4,.ptr 6 0)::(9,an 14 ev aq)::(10,ab ev.length)::pR) 7 rfl (gu @an.eq_1) ?_
 (try change aE _ _ _ _ _)
 refine(zC)<|(zK hap (hfl:=.inr (bg.refl rfl))) ?_;refine aT.r0 i4 (by simp only[dJ,cj,an,aJ,m8,m7,↓reduceIte,ad,af,am,ac,al,ar,az,bT,jZ,↓hk7,↓hk8];first | done | rfl) ?_;refine zZ ((8,ab er)::(7,.ip [an 14 nx ae])::(11,ab k)::(0,.a (.fn (.yield lc.id) [] []))::(1,.ip [an 14 ev aq])::(2,.ip [an 3 c ao])::(4,.ptr 6 0)::(9,an 14 ev aq)::(10,ab ev.length)::pR) 8 rfl ⟨.inl rfl,.inr (.ptr rfl (bg.refl rfl) (aS _)),zj⟩<|zA ((8,ab er)::(7,.ip [an 14 nx ae])::(11,ab k)::(0,.a (.fn (.yield lc.id) [] []))::(1,.ip [an 14 ev aq])::(2,.ip [an 3 c ao])::(4,.ptr 6 0)::(9,an 14 ev aq)::(10,ab ev.length)::pR) (C6 lc ps k++[.cells [an 14 ps ae]]) zH<|(zC)<|oA ((22,.a (.fn (.yield lc.id) [] []))::(23,.ag [an 14 nx ae])::(24,ab er)::(8,ab er)::(7,.ip [an 14 nx ae])::(11,ab k)::(0,.a (.fn (.yield lc.id) [] []))::(1,.ip [an 14 ev aq])::(2,.ip [an 3 c ao])::(4,.ptr 6 0)::(9,an 14 ev aq)::(10,ab ev.length)::pR) (C6 lc ps k++[.cells [an 14 ps ae]]) zH ?_;refine aT.y (vs:=[.ag [an 14 nx ae],ab er]) (oo:=0) i4 rfl rfl i4 rfl rfl rfl i4 rfl (by rw[hlp];rfl) (by rw[hln];rfl) (by rw[hln];decide) (by rw[hlp,hln];rfl) λro'=>?_
 have hcd2:=hcd;unfold wZ at hcd2;rw[dc] at hcd2;have hcd3:=Option.some.inj (hcd2.symm.trans i4);obtain⟨ha,hbb⟩:=Prod.mk.inj hcd3;rw[ha,hlp,hln];change aE _ _ _ ⟨(20,ab er)::(19,.ag [an 14 nx ae])::(4,.ptr 1 0)::(5,.ptr 2 0)::(6,.ptr 3 0)::(7,.ptr 4 0)::(8,.ptr 5 0)::(20000022,.a (.fn (.yield lc.id) [] []))::(20000023,.ag [an 14 nx ae])::(20000024,ab er)::(20000008,ab er)::(20000007,.ip [an 14 nx ae])::(20000011,ab k)::(20000000,.a (.fn (.yield lc.id) [] []))::(20000001,.ip [an 14 ev aq])::(20000002,.ip [an 3 c ao])::(20000004,.ptr 6 0)::(20000009,an 14 ev aq)::(20000010,ab ev.length)::[(21000000,.ptr 0 0),(21000001,.ptr 1 0),(21000002,.ptr 2 0),(21000003,.ptr 3 0),(21000004,.ptr 4 0),(21000005,.ptr 5 0)],30,[Fy lc true,.cells [an 14 ([]:List ai) ae],.cells [ab 0],.cells [ab 0],.cells [an 14 ps ae],.cells [ab k],.cells [an 14 ps ae]],[]⟩ _
 refine zA ((20,ab er)::(19,.ag [an 14 nx ae])::(4,.ptr 1 0)::(5,.ptr 2 0)::(6,.ptr 3 0)::(7,.ptr 4 0)::(8,.ptr 5 0)::(20000008,ab er)::(20000007,.ip [an 14 nx ae])::(20000011,ab k)::(20000000,.a (.fn (.yield lc.id) [] []))::(20000001,.ip [an 14 ev aq])::(20000002,.ip [an 3 c ao])::(20000004,.ptr 6 0)::(20000009,an 14 ev aq)::(20000010,ab ev.length)::[(21000000,.ptr 0 0),(21000001,.ptr 1 0),(21000002,.ptr 2 0),(21000003,.ptr 3 0),(21000004,.ptr 4 0),(21000005,.ptr 5 0)]) [Fy lc true,.cells [an 14 ([]:List ai) ae],.cells [ab 0],.cells [ab 0],.cells [an 14 ps ae],.cells [ab k],.cells [an 14 ps ae]] zH<|(zs) ?_;refine aE.r0 i4 (by simp only[dJ,cj,an,aJ,m8,m7,↓reduceIte,ad,af,am,ac,al,ar,az,bT,↓hk7];first | done | rfl) ?_;refine(zs) ?_;refine aE.r0 i4 (by simp only[dJ,cj,an,aJ,m8,m7,↓reduceIte,ad,af,am,ac,al,ar,az,bT,↓hk7];first | done | rfl) ?_;refine⟨rfl,0,none,[(4,.ptr 1 0),(5,.ptr 2 0),(6,.ptr 3 0),(7,.ptr 4 0),(8,.ptr 5 0)],rfl,?_⟩
 rw[hbb];change aE _ _ _ ⟨_,30,[.loop lc .busy none [(4,.ptr 1 0),(5,.ptr 2 0),(6,.ptr 3 0),(7,.ptr 4 0),(8,.ptr 5 0)],.cells [an 14 ([]:List ai) ae],.cells [ab 0],.cells [ab 0],.cells [an 14 ps ae],.cells [ab k],.cells [an 14 ps ae],.cells [an 14 nx ae]],[]⟩ _;refine(zB) ?_;by_cases herr:er=0
 ·rw[ut herr] at hr;subst herr
  refine(Ec)<|(zV)<|(aw (Ee (show -9223372036854775808<=(k:Int)+1/\(k:Int)+1<=9223372036854775807 from⟨by omega,by omega⟩))) ?_;refine⟨rfl,0,.busy,none,[(4,.ptr 1 0),(5,.ptr 2 0),(6,.ptr 3 0),(7,.ptr 4 0),(8,.ptr 5 0)],rfl,?_⟩
  simp only[yb,laid,ac,ay,↓reduceIte]
  refine oA ((25,ak true)::(8,ab 0)::(7,.ip [an 14 nx ae])::(11,ab k)::(0,.a (.fn (.yield lc.id) [] []))::(1,.ip [an 14 ev aq])::(2,.ip [an 3 c ao])::(4,.ptr 6 0)::(9,an 14 ev aq)::(10,ab ev.length)::pR) (C6 lc nx (k+1)++[.cells [an 14 ps ae]]) (bX (lM @Ax.eq_1 @Aw.eq_1 @yd.eq_1 @yb.eq_1 @Fy.eq_1))<|(zR)<|(kY)<|(aw (zi hlt hlen1)) ?_;refine wq hlt (nx) zH (⟨hr,q1,by omega⟩)
 rw[v6 herr] at hr
 refine(aw (wd herr))<|(zY)<|zA ((10,ab er)::(4,.ptr 1 0)::(5,.ptr 2 0)::(6,.ptr 3 0)::(7,.ptr 4 0)::(8,.ptr 5 0)::(20000008,ab er)::(20000007,.ip [an 14 nx ae])::(20000011,ab k)::(20000000,.a (.fn (.yield lc.id) [] []))::(20000001,.ip [an 14 ev aq])::(20000002,.ip [an 3 c ao])::(20000004,.ptr 6 0)::(20000009,an 14 ev aq)::(20000010,ab ev.length)::[(21000000,.ptr 0 0),(21000001,.ptr 1 0),(21000002,.ptr 2 0),(21000003,.ptr 3 0),(21000004,.ptr 4 0),(21000005,.ptr 5 0)]) [.loop lc .busy none [(4,.ptr 1 0),(5,.ptr 2 0),(6,.ptr 3 0),(7,.ptr 4 0),(8,.ptr 5 0)],.cells [an 14 ([]:List ai) ae],.cells [ab 0],.cells [ab 0],.cells [an 14 ps ae],.cells [ab k],.cells [an 14 ps ae]] zH ?_;refine aE.fg (Fg.TD (S':=[.loop lc .busy none [(4,.ptr 1 0),(5,.ptr 2 0),(6,.ptr 3 0),(7,.ptr 4 0),(8,.ptr 5 0)],.cells [.any],.cells [.any],.cells [ab 0],.cells [an 14 ps ae],.cells [ab k],.cells [an 14 ps ae]]) ⟨.inr ⟨by simp,.inl rfl⟩,.inr ⟨by simp,.inr ⟨_,_,rfl,rfl,.cons (.any _) .nil⟩⟩,.inr ⟨by simp,.inr ⟨_,_,rfl,rfl,.cons (.any _) .nil⟩⟩,.inr ⟨by simp,.inl rfl⟩,.inr ⟨by simp,.inl rfl⟩,.inr ⟨by simp,.inl rfl⟩,.inr ⟨by simp,.inl rfl⟩,trivial⟩) ?_
 (try change aE _ _ _ _ _)
 (repeat refine aE.seq ?_)
 have hv0:∀(i:Nat) (v:SV),vo (λ_=>False) i v=.any:=λi v=>mV λh=>h;have hv5:∀(i:Nat),i<5->∀v:SV,vo (λj=>j<5) i v=v:=λi h v=>cz h;refine aE.zu 5 8 (λL=>⟨(23,vo L 0 (.ag [bG]))::(24,vo L 1 (ab k))::(25,vo L 2 (ab er))::(10,ab er)::(4,.ptr 1 0)::(5,.ptr 2 0)::(6,.ptr 3 0)::(7,.ptr 4 0)::(8,.ptr 5 0)::(20000008,ab er)::(20000007,.ip [an 14 nx ae])::(20000011,ab k)::(20000000,.a (.fn (.yield lc.id) [] []))::(20000001,.ip [an 14 ev aq])::(20000002,.ip [an 3 c ao])::(20000004,.ptr 6 0)::(20000009,an 14 ev aq)::(20000010,ab ev.length)::[(21000000,.ptr 0 0),(21000001,.ptr 1 0),(21000002,.ptr 2 0),(21000003,.ptr 3 0),(21000004,.ptr 4 0),(21000005,.ptr 5 0)],30,[.loop lc .busy none [(4,.ptr 1 0),(5,.ptr 2 0),(6,.ptr 3 0),(7,.ptr 4 0),(8,.ptr 5 0)],.cells [vo L 3 bG],.cells [vo L 4 (ab k)],.cells [ab 0],.cells [an 14 ps ae],.cells [ab k],.cells [an 14 ps ae]],[]⟩) rfl zW i4 ii zW (bX hv0) (λL=>rfl) ?_ ?_
 ·rintro L i o him hC hr
  rcases i with _ | _ | _ | _ | _ | i
  rotate_right
  ·exact un him i5
  ·cases hr.jw;refine(zR) ?_;exact(bX @bz)
  ·cases hr.jw;refine(zR) ?_;exact(bX @bz)
  ·cases hr.jw;refine(zR) ?_;exact(bX @bz)
  ·cases hr.jw;have d0:L 0:=hr.dep ⟨0,.data⟩ gt rfl;refine(cJ (iK d0)) ?_;exact(bX (bq @bz (iK d0)))
  ·cases hr.jw;have d1:L 1:=hr.dep ⟨1,.data⟩ gt rfl;refine(cJ (iK d1)) ?_;exact(bX (bq @bz (iK d1)))
 change aT _ _ _ _ _ _
 refine oA ((25,ab er)::(6,.ptr 3 0)::(4,.ptr 1 0)::(5,.ptr 2 0)::(7,.ptr 4 0)::(8,.ptr 5 0)::(20000008,ab er)::(20000007,.ip [an 14 nx ae])::(20000011,ab k)::(20000000,.a (.fn (.yield lc.id) [] []))::(20000001,.ip [an 14 ev aq])::(20000002,.ip [an 3 c ao])::(20000004,.ptr 6 0)::(20000009,an 14 ev aq)::(20000010,ab ev.length)::[(21000000,.ptr 0 0),(21000001,.ptr 1 0),(21000002,.ptr 2 0),(21000003,.ptr 3 0),(21000004,.ptr 4 0),(21000005,.ptr 5 0)]) [.loop lc .busy none [(4,.ptr 1 0),(5,.ptr 2 0),(6,.ptr 3 0),(7,.ptr 4 0),(8,.ptr 5 0)],.cells [bG],.cells [ab k],.cells [ab 0],.cells [an 14 ps ae],.cells [ab k],.cells [an 14 ps ae]] (bX (cG (hv5 2 ii) (hv5 3 ii) (hv5 4 ii)))<|(zR) ?_;refine aE.ret ?_
 (try simp only[eQ,cX,bU,bK])
 refine⟨trivial,0,.busy,none,[(4,.ptr 1 0),(5,.ptr 2 0),(6,.ptr 3 0),(7,.ptr 4 0),(8,.ptr 5 0)],rfl,?_⟩;simp only[yb,laid,ac,ay,↓reduceIte]
 refine oA ((25,ak false)::(8,ab er)::(7,.ip [an 14 nx ae])::(11,ab k)::(0,.a (.fn (.yield lc.id) [] []))::(1,.ip [an 14 ev aq])::(2,.ip [an 3 c ao])::(4,.ptr 6 0)::(9,an 14 ev aq)::(10,ab ev.length)::pR) [Fy lc false,.cells [bG],.cells [ab k],.cells [ab er],.cells [an 14 ps ae],.cells [ab k],.cells [an 14 ps ae]] (bX (lM @Ax.eq_1 @Aw.eq_1 @yd.eq_1 @yb.eq_1 @Fy.eq_1))<|(zR)<|(zY)<|zA pR [Fy lc false,.cells [bG],.cells [ab k],.cells [ab er],.cells [an 14 ps ae],.cells [ab k]] zH ?_;refine aE.fg (Fg.TD (S':=[Fy lc false,.cells [an 14 ([]:List ai) ae],.cells [ab k],.cells [ab er],.cells [an 14 ps ae],.cells [ab k]]) ⟨.inr ⟨by simp,.inl rfl⟩,.inr ⟨by simp,.inr ⟨_,_,rfl,rfl,.cons (.nil _) .nil⟩⟩,.inr ⟨by simp,.inl rfl⟩,.inr ⟨by simp,.inl rfl⟩,.inr ⟨by simp,.inl rfl⟩,.inr ⟨by simp,.inl rfl⟩,trivial⟩) ?_;refine aE.ret ?_
 (try simp only[eQ,cX,bU,bK])
 exact KD.of (rs:=[]) rfl rfl rfl ⟨rfl,.inr (by rw[hr];exact⟨herr,rfl,ps,k,rfl⟩)⟩ (ap _) Rm
def D7(c:List aL)(ev:List bu):PC prog 281 [.ag [an 3 c ao],an 14 ev aq] (·=.fn 312 [] [.ip [an 14 ev aq],.ip [an 3 c ao]]):=by
 refine pB 6 Tryz.func281 ?_;refine(zV) ?_;exact zZ [(2,.ip [an 3 c ao]),(3,.ptr 1 0)] 0 rfl (gu @an.eq_1)<|zZ [(2,.ip [an 3 c ao]),(3,.ip [an 14 ev aq])] 1 rfl (gu @an.eq_1)<|zA [(2,.ip [an 3 c ao]),(3,.ip [an 14 ev aq])] [] zH<|(zV)<|zo [.tmp 4]
def qD(r:List ai×Int×Int):SV:=.cm [.ag [an 14 r.1 ae],ab r.2.1,ab r.2.2]
def AQ(c:List aL)(l:List bu):List ai×Int×Int:=if og c=true then pV c 0 (eF l) [] else ([],-1,1)
def Pg.Ub{P:Program}{fn:Func}{Q:SV->Prop}{e:Ex}{st:eI}(h:Bf P fn Q e st):Pg P fn Q e st:=by
 obtain⟨he,hd,h⟩:=h;refine⟨he,?_⟩;rw[hd];exact h
def Ma(c:List aL)(l:List bu)(hc:mr c)(hlen:l.length<20)(hl:∀e∈l,lK e):PC prog 226 [.ag [an 3 c ao],an 14 l aq] (·=qD (AQ c l)):=by
 refine PC.sQ (n:=30) dr dc rfl rfl ii ?_;refine(zV) ?_;refine zZ [(1,an 14 l aq),(2,.ip [an 3 c ao]),(4,.ptr 1 0),(5,.ptr 2 0),(6,.ptr 3 0)] 0 rfl (gu @an.eq_1)<|zA [(1,an 14 l aq),(2,.ip [an 3 c ao]),(4,.ptr 1 0),(5,.ptr 2 0),(6,.ptr 3 0)] [.gone,.cells [.a (.slice none 0 0 (some 0))],.cells [ab 0],.cells [ab 0]] zH ?_;refine aE.fg (Fg.rn (f':=[(1,an 14 l aq),(2,.ip [an 3 c ao]),(4,.ptr 0 0),(5,.ptr 1 0),(6,.ptr 2 0)]) (n:=30) (S':=[.cells [.a (.slice none 0 0 (some 0))],.cells [ab 0],.cells [ab 0]]) [1,2,3] ii rfl (by (simp only[si,gD,cj,an,bn (aA bN l)])<;>(repeat' apply be)<;>first | trivial | exact .inl rfl | exact .inr rfl | exact .inr trivial | exact .inl trivial) (by (simp only[dJ,gD,cj,an,bn (aA bN l)])<;>(repeat' apply be)<;>first | rfl | trivial)) ?_
 (try change aE _ _ _ _ _)
 unfold AQ;cases h1:og c
 ·have hv:=nI c hc;rw[h1] at hv
  refine(zC)<|(zK hv)<|(zR)<|(cF) ?_;refine aE.ret ?_
  (try simp only[eQ,cX,bU,bK])
  refine Pg.Ub ?_;exact zO [.cell 4 46,.cell 5 3,.cell 6 47] (r:=.cm [.ag [.sl 0 14 []],ab (-1),ab 1]) (hw:=zv)
 have hv:=nI c hc;rw[h1] at hv
 refine(zC)<|(zK hv)<|(zR)<|(kY)<|(zV)<|zA [(1,an 14 l aq),(2,.ip [an 3 c ao]),(4,.ptr 0 0),(5,.ptr 1 0),(6,.ptr 2 0),(7,.ptr 3 0),(8,.ptr 4 0)] [.cells [.a (.slice none 0 0 (some 0))],.cells [ab 0],.cells [ab 0],.cells [.a (.slice none 0 0 (some 0))],.cells [ab 0]] zH ?_;refine aE.fg (Fg.TD (S':=[.cells [an 14 ([]:List ai) ae],.cells [ab 0],.cells [ab 0],.cells [an 14 ([]:List ai) ae],.cells [ab 0]]) ⟨.inr ⟨by simp,.inr ⟨_,_,rfl,rfl,.cons (.nil _) .nil⟩⟩,.inr ⟨by simp,.inl rfl⟩,.inr ⟨by simp,.inl rfl⟩,.inr ⟨by simp,.inr ⟨_,_,rfl,rfl,.cons (.nil _) .nil⟩⟩,.inr ⟨by simp,.inl rfl⟩,trivial⟩) ?_
 (try change aE _ _ _ _ _)
 have hkm:∀e∈eF l,lK e:=λe he=>hl e ((uU _ _).mem_iff.1 he)
 have hsl:(eF l).length<20:=by rw[eF,yv];exact hlen
 have hso:=we l hlen;generalize eF l=ev at hkm hsl hso ⊢;rw[ut rfl];have hv0:∀(i:Nat) (v:SV),vo (λ_=>False) i v=.any:=λi v=>mV λh=>h;have hv3:∀(i:Nat),i<3->∀v:SV,vo (λj=>j<3) i v=v:=λi h v=>cz h
 (repeat refine aE.seq ?_)
 refine aE.zu 3 6 (λL=>⟨(15,vo L 0 (.ag [an 3 c ao]))::(16,vo L 1 (an 14 l aq))::(17,vo L 2 (an 14 ev aq))::(1,an 14 l aq)::(2,.ip [an 3 c ao])::[(4,.ptr 0 0),(5,.ptr 1 0),(6,.ptr 2 0),(7,.ptr 3 0),(8,.ptr 4 0)],30,[.cells [an 14 ([]:List ai) ae],.cells [ab 0],.cells [ab 0],.cells [an 14 ([]:List ai) ae],.cells [ab 0]],[]⟩) rfl zW i4 ii zW (bX hv0) (λL=>rfl) ?_ ?_
 ·rintro L i o him hC hr
  rcases i with _ | _ | _ | i
  rotate_right
  ·exact un him i5
  ·cases hr.jw;refine(zR) ?_;exact(bX @bz)
  ·cases hr.jw;refine(zR) ?_;exact(bX @bz)
  ·cases hr.jw;have d1:L 1:=hr.dep ⟨1,.data⟩ gt rfl;refine(zK hso (hc:=Hg (iK d1)) (hfl:=.inr (bg.refl rfl))) ?_;refine .nil ?_;exact(bX (bq @bz (iK d1)))
 change aT _ _ _ _ _ _
 refine oA ((15,.ag [an 3 c ao])::(17,an 14 ev aq)::[(4,.ptr 0 0),(5,.ptr 1 0),(6,.ptr 2 0),(7,.ptr 3 0),(8,.ptr 4 0)]) [.cells [an 14 ([]:List ai) ae],.cells [ab 0],.cells [ab 0],.cells [an 14 ([]:List ai) ae],.cells [ab 0]] (bX (bq (hv3 0 ii) (hv3 2 ii)))<|(zK (D7 c ev) (hfl:=.inr (bg.refl rfl))) ?_;refine .nil ?_
 change aE _ _ _ _ _;refine zA ((18,.fn 312 [] [.ip [an 14 ev aq],.ip [an 3 c ao]])::[(4,.ptr 0 0),(5,.ptr 1 0),(6,.ptr 2 0),(7,.ptr 3 0),(8,.ptr 4 0)]) [.cells [an 14 ([]:List ai) ae],.cells [ab 0],.cells [ab 0],.cells [an 14 ([]:List ai) ae],.cells [ab 0]] zH ?_;refine aE.block ?_;refine aE.tJ (f1:=[(4,.ptr 0 0),(5,.ptr 1 0),(6,.ptr 2 0),(7,.ptr 3 0),(8,.ptr 4 0)]) dr i4 func312 i4 Ur ?_;rintro N lc hid hn hps ha hb
 have hcd:wZ lc:=by
  unfold wZ;rw[dc,ha,hb];rfl
 have hsc:=D6 c ev lc hcd hn hps hc hsl hkm;generalize pV c 0 ev []=q at hsc ⊢;refine⟨[6,0,1,2,3,4],_,_,_,_,hsc,?_,rfl,by decide,?_,?_⟩
 ·simp only[gD,cj,dJ,an,eK,aY,↓reduceIte,ad,af,ay,hid,List.map,d7,cons_append,nil_append]
  try rfl
 ·rintro(_ | _ | _ | _ | _ | _ | i) so h
  ·cases h;exact⟨6,rfl,by rfl⟩
  ·cases h;exact⟨0,rfl,by rfl⟩
  ·cases h;exact⟨1,rfl,by rfl⟩
  ·cases h;exact⟨2,rfl,by rfl⟩
  ·cases h;exact⟨3,rfl,by rfl⟩
  ·cases h;exact⟨4,rfl,by rfl⟩
  ·cases h
 rintro r S' ⟨rfl,hS'⟩;have hbq:∀(B:Nat) (l:List ai),dz B (an 14 l ae)=true:=λB l=>gi rfl
 rcases hS' with⟨hq0,hq1,rfl⟩ | ⟨hq0,hq1,ps,k,rfl⟩
 ·refine⟨by simp only[C6,Fy,B4,gD,cj,an,af,al,decide_true,↓hbq];first | done | rfl,6,.ready,none,[(4,.ptr 0 0),(5,.ptr 1 0),(6,.ptr 2 0),(7,.ptr 3 0),(8,.ptr 4 0)],by rfl,by decide,by rfl,?_⟩
  have hS2:(dI (fW (fW [.cells [an 14 ([]:List ai) ae],.cells [ab 0],.cells [ab 0],.cells [an 14 ([]:List ai) ae],.cells [ab 0]] (SO.mC N)) (SO.loop lc .ready none [(4,.ptr 0 0),(5,.ptr 1 0),(6,.ptr 2 0),(7,.ptr 3 0),(8,.ptr 4 0)])) [6,0,1,2,3,4] [] (C6 lc q.1 ev.length)).set 6 .gone=[.cells [an 14 ([]:List ai) ae],.cells [ab 0],.cells [ab 0],.cells [an 14 q.1 ae],.cells [ab ev.length],.mC N,.gone]:=by
   have hrq:∀(r:Nat->Nat),mn r (q.1.flatMap ae)=q.1.flatMap ae:=λr=>bn (aA dk q.1);simp only[dI,fW,ek,c9,fU,gA,jp,i7,List.map,aj,md];rfl
  rw[hS2];change aE _ _ _ ⟨[(4,.ptr 0 0),(5,.ptr 1 0),(6,.ptr 2 0),(7,.ptr 3 0),(8,.ptr 4 0)],30,_,[{ fn:=none,Ew:=N,args:=[],cap:=[] }]⟩ _;refine(zV) ?_;refine aE.ret ?_
  (try simp only[eQ,cX,bU,bK])
  exact⟨rfl,[(4,.ptr 0 0),(5,.ptr 1 0),(6,.ptr 2 0)],⟨rfl,rfl,rfl,trivial⟩,rfl,.inl ⟨rfl,5,rfl,[.ag [an 14 q.1 ae],ab (-1),ab 0],.cm [.ag [an 14 q.1 ae],ab (-1),ab 0],by rfl,.cm (.cons (.ag (bg.refl rfl)) (.cons (.a _) (.cons (.a _) .nil))),by rw[qD,hq0,hq1]⟩⟩
 ·have hS2:(dI (fW (fW [.cells [an 14 ([]:List ai) ae],.cells [ab 0],.cells [ab 0],.cells [an 14 ([]:List ai) ae],.cells [ab 0]] (SO.mC N)) (SO.loop lc .ready none [(4,.ptr 0 0),(5,.ptr 1 0),(6,.ptr 2 0),(7,.ptr 3 0),(8,.ptr 4 0)])) [6,0,1,2,3,4] [] [Fy lc false,.cells [an 14 ([]:List ai) ae],.cells [ab q.2.1],.cells [ab q.2.2],.cells [an 14 ps ae],.cells [ab k]]).set 6 .gone=[.cells [an 14 ([]:List ai) ae],.cells [ab q.2.1],.cells [ab q.2.2],.cells [an 14 ps ae],.cells [ab k],.mC N,.gone]:=by
   simp only[dI,fW,ek,c9,fU,gA,jp,i7,List.map,aj,md];rfl
  refine⟨by simp only[Fy,B4,gD,cj,an,af,al,decide_true,↓hbq];first | done | rfl,6,.done,some .ret,[(4,.ptr 0 0),(5,.ptr 1 0),(6,.ptr 2 0),(7,.ptr 3 0),(8,.ptr 4 0)],by rfl,by decide,by rfl,?_⟩;rw[hS2];change aE _ _ _ ⟨[(4,.ptr 0 0),(5,.ptr 1 0),(6,.ptr 2 0),(7,.ptr 3 0),(8,.ptr 4 0)],30,_,[{ fn:=none,Ew:=N,args:=[],cap:=[] }]⟩ _;refine aE.ret ?_
  (try simp only[eQ,cX,bU,bK])
  exact⟨rfl,[(4,.ptr 0 0),(5,.ptr 1 0),(6,.ptr 2 0)],⟨rfl,rfl,rfl,trivial⟩,rfl,.inl ⟨rfl,5,rfl,[.ag [an 14 ([]:List ai) ae],ab q.2.1,ab q.2.2],.cm [.ag [an 14 ([]:List ai) ae],ab q.2.1,ab q.2.2],by rfl,.cm (.cons (.ag (bg.refl rfl)) (.cons (.a _) (.cons (.a _) .nil))),by rw[qD,hq1]⟩⟩
def vW(e:bu)(day:Int):PC prog 227 [.ag (aq e),.ip [ab day]] (·=ak (eN day e)):=by
 refine pB 8 Tryz.func227 ?_;exact(aw @dj)<|(zV)<|zo [.tmp 3]
def mL(a b:Nat)(L:Nat->Prop):Nat->Prop:=λ_=>L a/\¬L b
def pC{a b i:Nat}{L:Nat->Prop}(ha:a≠i)(hb:b≠i):mL a b (λj=>L j\/j=i)=mL a b L:=by
 funext x;unfold mL;simp[ha,hb]
def Rj{a b:Nat}{L:Nat->Prop}(h1:¬L b)(hab:b≠a):mL a b (λj=>L j\/j=a) 0:=⟨.inr rfl,λh=>h.elim h1 hab⟩
def NM{a b:Nat}{L:Nat->Prop}:¬mL a b (λj=>L j\/j=b) 0:=λh=>h.2 (.inr rfl)
def P3{a b:Nat}{L:Nat->Prop}(h:¬L a):¬mL a b L 0:=λk=>h k.1
def OO(c:List aL)(l:List bu)(day:Int)(hc:mr c)(hlen:l.length<20)(hl:∀e∈l,lK e):PC prog 145 [.ag [an 3 c ao],an 14 l aq,ab day] (·=qD (AQ c (dR (eN day) l))):=by
 refine pB 18 Tryz.func145 ?_;refine(zV) ?_;refine zZ [(1,an 14 l aq),(3,.ip [an 3 c ao]),(5,.ptr 1 0),(6,.ptr 2 0)] 0 rfl (gu @an.eq_1) ?_;refine aE.fg (Fg.rn (f':=(5,.ptr 0 0)::(6,.ptr 1 0)::(1,an 14 l aq)::[(3,.ip [an 3 c ao])]) (n:=18) (S':=[.cells [ab day],.cells [.a (.slice none 0 0 (some 0))]]) [1,2] ii rfl (by (simp only[si,gD,cj,an,bn (aA bN l)])<;>(repeat' apply be)<;>first | trivial | exact .inl rfl | exact .inr rfl | exact .inr trivial | exact .inl trivial) (by (simp only[dJ,gD,cj,an,bn (aA bN l)])<;>(repeat' apply be)<;>first | rfl | trivial)) ?_
 (try change aE _ _ _ _ _)
 obtain⟨kp,hkp⟩:∃kp,kp=dR (eN day) l:=⟨_,rfl⟩
 have hkl:kp.length<=l.length:=by rw[hkp];exact Fh _ _
 have hkm:∀e∈kp,lK e:=λe he=>hl e (by rw[hkp] at he;exact(mem_filter.1 he).1);have hrun:=Ma c kp hc i5 hkm;rw[<-hkp];generalize AQ c kp=q at hrun ⊢;have hv0:∀(i:Nat) (v:SV),vo (λ_=>False) i v=.any:=λi v=>mV λh=>h;have hv9:∀(i:Nat),i<9->∀v:SV,vo (λj=>j<9) i v=v:=λi h v=>cz h;have hnq:∀(o:Nat) (L:Nat->Prop) (i:Nat),Ev.names o (vo L i (qD q))=false:=λo L i=>cZ o L i _ rfl
 (repeat refine aE.seq ?_)
 by_cases hne:l=[]
 ·subst hne;have hk0:kp=[]:=hkp;subst hk0;refine aE.zu 9 14 (λL=>⟨(9,vo L 0 (.ag [an 3 c ao]))::(10,vo L 1 (an 14 ([]:List bu) aq))::(11,vo L 2 (.e0 14))::(12,vo L 3 (.fn 227 [] [.ptr 0 0]))::(13,vo L 4 (.e0 14))::(14,vo L 5 (qD q))::(15,vo L 6 (.ag [an 14 q.1 ae]))::(16,vo L 7 (ab q.2.1))::(17,vo L 8 (ab q.2.2))::(5,.ptr 0 0)::(6,.ptr 1 0)::(1,an 14 ([]:List bu) aq)::[(3,.ip [an 3 c ao])],18,[.cells [ab day],.cells [.a (.slice none 0 0 (some 0))]],[]⟩) rfl zW i4 ii zW (bX hv0) (λL=>rfl) ?_ ?_
  ·rintro L i o him hC hr
   rcases i with _ | _ | _ | _ | _ | _ | _ | _ | _ | i
   rotate_right
   ·exact un him i5
   ·cases hr.jw;refine(zR) ?_;exact(bX @bz)
   ·cases hr.jw;refine(zR) ?_;exact(bX @bz)
   ·cases hr.jw;have d1:L 1:=hr.dep ⟨1,.data⟩ gt rfl;refine zS [] @cZ rQ ?_ (hc:=Hg (iK d1));refine .nil ?_;exact(bX (bq @bz (iK d1)))
   ·cases hr.jw;refine(zR) ?_;exact(bX @bz)
   ·cases hr.jw;have d2:L 2:=hr.dep ⟨2,.data⟩ gt rfl;have d3:L 3:=hr.dep ⟨3,.data⟩ gt rfl;refine zS [0] @cZ (z7 227 [ab day] rfl (eN day) (λx=>vW x day)) ?_ (hc:=Hg (bq (iK d2) (iK d3)));refine .nil ?_;exact(bX (cG @bz (iK d2) (iK d3)))
   ·cases hr.jw;have d0:L 0:=hr.dep ⟨0,.data⟩ gt rfl;have d4:L 4:=hr.dep ⟨4,.data⟩ gt rfl;refine(zK hrun (hc:=Hg (bq (iK d0) (iK d4))) (hwk:=.cons (.ag (bg.refl rfl)) (.cons (.S8 14) .nil)) (hfl:=.inr (.cons (.ag (bg.refl rfl)) (.cons (.S8 14) .nil)))) ?_;refine .nil ?_;exact(bX (cG @bz (iK d0) (iK d4)))
   ·cases hr.jw;have d5:L 5:=hr.dep ⟨5,.data⟩ gt rfl;refine(cJ (bq (iK d5) @qD.eq_1)) ?_;exact(bX (bq @bz (iK d5)))
   ·cases hr.jw;have d5:L 5:=hr.dep ⟨5,.data⟩ gt rfl;refine(cJ (bq (iK d5) @qD.eq_1)) ?_;exact(bX (bq @bz (iK d5)))
   ·cases hr.jw;have d5:L 5:=hr.dep ⟨5,.data⟩ gt rfl;refine(cJ (bq (iK d5) @qD.eq_1)) ?_;exact(bX (bq @bz (iK d5)))
  ·change aT _ _ _ _ _ _
   refine oA [(15,.ag [an 14 q.1 ae]),(16,ab q.2.1),(17,ab q.2.2),(6,.ptr 1 0)] [.cells [ab day],.cells [.a (.slice none 0 0 (some 0))]] (bX (cG (hv9 6 ii) (hv9 7 ii) (hv9 8 ii)))<|(zR) ?_
   change aT _ _ _ _ _ _;refine(zR) ?_;change aT _ _ _ _ _ _
   refine(zR)<|(zE) ?_;exact zO [.cell 6 46,.tmp 7,.tmp 8] (r:=.cm [.ag [an 14 q.1 ae],ab q.2.1,ab q.2.2]) (hw:=zv)
 ·have hne0:¬l.length=0:=λh=>hne (t8 h);have hrq:∀(r:Nat->Nat) (q:List bu),mn r (q.flatMap aq)=q.flatMap aq:=λr q=>bn (aA bN q);have hbq:∀(B:Nat) (q:List bu),hY B (q.flatMap aq)=true:=λB q=>bI (aA bN q);have hkq:=bC bN;have hcl:=rR l i5 hne;have hdel:=z8 227 [ab day] rfl (eN day) (λx=>vW x day) l i5;rw[<-hkp] at hdel;obtain⟨w,hw⟩:∃w,w=kp++List.replicate (l.length-kp.length) bu.zero:=⟨_,rfl⟩
  have hqt:(w.flatMap aq).take (kp.length*14)=kp.flatMap aq:=by
   rw[ji cA,hw,List.take_append_of_le_length (ap _),b9 (ap _)]
  have hql:(w.flatMap aq).length=l.length*14:=by rw[aZ cA,hw,md,List.length_replicate];congr 1;omega
  rw[<-hw] at hdel;have hm0:∀v:SV,vo (mL 2 4 λ_=>False) 0 v=.any:=λv=>mV λh=>h.1;have hw0:∀o:SO,wo (mL 2 4 λ_=>False) 0 o=.gone:=λo=>gg λh=>h.1;have hw9:∀o:SO,wo (mL 2 4 λj=>j<9) 0 o=.gone:=λo=>gg λh=>h.2 ii;refine aE.zu 9 14 (λL=>⟨(9,vo L 0 (.ag [an 3 c ao]))::(10,vo L 1 (an 14 l aq))::(11,vo (mL 2 4 L) 0 (.buf 3 l.length 14 none))::(12,vo L 3 (.fn 227 [] [.ptr 0 0]))::(13,vo L 4 (an 14 kp aq))::(14,vo L 5 (qD q))::(15,vo L 6 (.ag [an 14 q.1 ae]))::(16,vo L 7 (ab q.2.1))::(17,vo L 8 (ab q.2.2))::(5,.ptr 0 0)::(6,.ptr 1 0)::(1,an 14 l aq)::[(3,.ip [an 3 c ao])],18,[.cells [ab day],.cells [.a (.slice none 0 0 (some 0))],.gone,wo (mL 2 4 L) 0 (.cells (l.flatMap aq))],[]⟩) rfl zW i4 ii zW (bX (cG hv0 hm0 hw0)) (λL=>rfl) ?_ ?_
  ·rintro L i o him hC hr
   rcases i with _ | _ | _ | _ | _ | _ | _ | _ | _ | i
   rotate_right
   ·exact un him i5
   ·cases hr.jw;refine(zR) ?_;exact(bX (bq @bz (pC (a:=2) (b:=4) (i:=0) (L:=L) ii ii)))
   ·cases hr.jw;refine(zR) ?_;exact(bX (bq @bz (pC (a:=2) (b:=4) (i:=1) (L:=L) ii ii)))
   ·cases hr.jw;have d1:L 1:=hr.dep ⟨1,.data⟩ gt rfl;have n2:¬L 2:=hr.new;have n4:¬L 4:=λh=>n2 (hC 4 _ rfl h ⟨2,.data⟩ gt rfl);refine oA ((9,vo L 0 (.ag [an 3 c ao]))::(10,an 14 l aq)::(12,vo L 3 (.fn 227 [] [.ptr 0 0]))::(13,vo L 4 (an 14 kp aq))::(14,vo L 5 (qD q))::(15,vo L 6 (.ag [an 14 q.1 ae]))::(16,vo L 7 (ab q.2.1))::(17,vo L 8 (ab q.2.2))::(5,.ptr 0 0)::(6,.ptr 1 0)::(1,an 14 l aq)::[(3,.ip [an 3 c ao])]) [.cells [ab day],.cells [.a (.slice none 0 0 (some 0))]] (bX (bq (iK d1) (U0 (P3 (b:=4) n2)))) ?_;refine zS [] (gm @cZ hrq hbq hkq) hcl ?_;refine .nil ?_;exact(bX (lM hnq @bz (iK d1) (iK (show mL 2 4 (λj=>L j\/j=0+1+1) 0 from Rj n4 ii)) (U1 (show mL 2 4 (λj=>L j\/j=0+1+1) 0 from Rj n4 ii))))
   ·cases hr.jw;refine(zR) ?_;exact(bX (bq @bz (pC (a:=2) (b:=4) (i:=3) (L:=L) ii ii)))
   ·cases hr.jw;have d2:L 2:=hr.dep ⟨2,.data⟩ gt rfl;have d3:L 3:=hr.dep ⟨3,.data⟩ gt rfl;have n4:¬L 4:=hr.new;refine oA ((9,vo L 0 (.ag [an 3 c ao]))::(10,vo L 1 (an 14 l aq))::(11,.buf 3 l.length 14 none)::(12,.fn 227 [] [.ptr 0 0])::(14,vo L 5 (qD q))::(15,vo L 6 (.ag [an 14 q.1 ae]))::(16,vo L 7 (ab q.2.1))::(17,vo L 8 (ab q.2.2))::(5,.ptr 0 0)::(6,.ptr 1 0)::(1,an 14 l aq)::[(3,.ip [an 3 c ao])]) [.cells [ab day],.cells [.a (.slice none 0 0 (some 0))],.gone,.cells (l.flatMap aq)] (bX (cG (iK d3) (iK (show mL 2 4 L 0 from⟨d2,n4⟩)) (U1 (show mL 2 4 L 0 from⟨d2,n4⟩)))) ?_;refine zS [3,0] (lM @cZ @y9 hrq hbq hkq) hdel ?_;refine .nil ?_;refine Fg.trans (Fg.freeze (f':=(13,an 14 kp aq)::(9,vo L 0 (.ag [an 3 c ao]))::(10,vo L 1 (an 14 l aq))::(12,.fn 227 [] [.ptr 0 0])::(14,vo L 5 (qD q))::(15,vo L 6 (.ag [an 14 q.1 ae]))::(16,vo L 7 (ab q.2.1))::(17,vo L 8 (ab q.2.2))::(5,.ptr 0 0)::(6,.ptr 1 0)::(1,an 14 l aq)::[(3,.ip [an 3 c ao])]) 3 rfl g9 ⟨.inr (.buf rfl (by rw[hqt];exact bg.refl (aA bN _)) (by rw[hql];exact Nat.mul_le_mul_right 14 hkl)),zj⟩) ?_;exact(bX (gm @bz (iK d3) (Vn (show ¬mL 2 4 (λj=>L j\/j=0+1+1+1+1) 0 from NM)) (U0 (show ¬mL 2 4 (λj=>L j\/j=0+1+1+1+1) 0 from NM))))
   ·cases hr.jw;have d0:L 0:=hr.dep ⟨0,.data⟩ gt rfl;have d4:L 4:=hr.dep ⟨4,.data⟩ gt rfl;refine(zK hrun (hc:=Hg (bq (iK d0) (iK d4))) (hfl:=.inr (bg.refl rfl))) ?_;refine .nil ?_;exact(bX (gm @bz (pC (a:=2) (b:=4) (i:=5) (L:=L) ii ii) (iK d0) (iK d4)))
   ·cases hr.jw;have d5:L 5:=hr.dep ⟨5,.data⟩ gt rfl;refine(cJ (bq (iK d5) @qD.eq_1)) ?_;exact(bX (cG @bz (pC (a:=2) (b:=4) (i:=6) (L:=L) ii ii) (iK d5)))
   ·cases hr.jw;have d5:L 5:=hr.dep ⟨5,.data⟩ gt rfl;refine(cJ (bq (iK d5) @qD.eq_1)) ?_;exact(bX (cG @bz (pC (a:=2) (b:=4) (i:=7) (L:=L) ii ii) (iK d5)))
   ·cases hr.jw;have d5:L 5:=hr.dep ⟨5,.data⟩ gt rfl;refine(cJ (bq (iK d5) @qD.eq_1)) ?_;exact(bX (cG @bz (pC (a:=2) (b:=4) (i:=8) (L:=L) ii ii) (iK d5)))
  ·change aT _ _ _ _ _ _
   refine oA [(15,.ag [an 14 q.1 ae]),(16,ab q.2.1),(17,ab q.2.2),(6,.ptr 1 0)] [.cells [ab day],.cells [.a (.slice none 0 0 (some 0))]] (bX (gm hw9 (hv9 6 ii) (hv9 7 ii) (hv9 8 ii)))<|(zR) ?_
   change aT _ _ _ _ _ _;refine(zR) ?_;change aT _ _ _ _ _ _
   refine(zR)<|(zE) ?_;exact zO [.cell 6 46,.tmp 7,.tmp 8] (r:=.cm [.ag [an 14 q.1 ae],ab q.2.1,ab q.2.2]) (hw:=zv)
structure kI where
 part:List Nat
 fC:List Nat
 day:Int
 deriving DecidableEq
def kI.av(d:kI):List AV:=[.str d.part,.str d.fC,.int .i64 d.day]
def nM(d:kI):AV:=.agg d.av
def kI.eq(a b:kI):fN eC a.av b.av=decide (a=b):=by
 obtain⟨a1,a2,a3⟩:=a;obtain⟨b1,b2,b3⟩:=b;simp only[kI.av,fN,eC,AG,sd,j9,cd,c0,kI.mk.injEq,dv]
def L0:Keys prog 137 nM:=
 uY (ks:=[.s,.s,.i .i64]) zW (by simp only[aJ,m7]) (λ_=>rfl) kI.eq λ_=>rfl
def GK{S:List SO}{o:Nat}{l:List (kI×Bool)}(a b:List Nat)(n:Int)(u:Bool)(hS:S[o]?=some (bE nM ak l)):iq prog S 134 (.map o) (.ag [ah a,ah b,ab n]) (.a (.bool u))=some (S.set o (bE nM ak (cq (⟨a,b,n⟩:kI) u l))):=
 Ig (uv:=ak) (k:=(⟨a,b,n⟩:kI)) (kt:=137) (et:=4) (by simp only[aJ]) L0 hS rfl u
def oz{n:Nat}{l:List (kI×Bool)}:cE n (bE nM ak l)=bE nM ak l:=mh λ_=>lY _
def ja(l:List bu)(part:List Nat)(day:Int)(kind:List Nat)(m:List (kI×Bool))(d:dZ):List (kI×Bool):=
 if rK d=true/\d.kind=kind/\(lF d l part day).2=true then cq ⟨part,d.name,(lF d l part day).1⟩ true m else m
def rN(ds:List dZ)(c:List aL)(l:List bu)(part:List Nat)(day:Int):List (kI×Bool):=
 match bD (O6 c l day).1 part with
 | none=>[]
 | some p=>if (O6 c l day).2≠0\/p.bo=true then [] else ds.foldl (ja l part day p.kind) []
def J9{K U:Type}[DecidableEq K]{k:K}{v:U}:∀{m:List (K×U)} {e:K×U},e∈cq k v m->e=(k,v)\/e∈m
 | [],e,h=>by unfold cq at h;exact .inl (t6 h)
 | a::m,e,h=>by
  unfold cq at h;split at h
  ·rcases t7 h with rfl | h
   ·exact .inl rfl
   ·exact .inr (ax _ h)
  ·rcases t7 h with rfl | h
   ·exact .inr bc
   ·exact(J9 h).imp id (ax _)
def tI{K U:Type}[DecidableEq K]{k:K}{v:U}:∀{m:List (K×U)},(m.map (·.1)).Nodup->((cq k v m).map (·.1)).Nodup
 | [],_=>by unfold cq;simp
 | e::m,h=>by
  rw[bi,bt] at h;unfold cq;split
  ·rename_i hk;rw[bi,bt,hk];exact h
  ·rename_i hk;rw[bi,bt];refine⟨λhm=>?_,tI h.2⟩;obtain⟨x,hx,e1⟩:=mem_map.1 hm
   rcases J9 hx with rfl | hx
   ·exact hk e1
   ·exact h.1 (e1▸bk hx)
def On{K U:Type}[DecidableEq K]{k x:K}{v:U}{m:List (K×U)}:x∈(cq k v m).map (·.1)↔x=k\/x∈m.map (·.1):=by
 rw[<-kQ,<-kQ,qo,cc,wp,or_comm]
def J7(ds:List dZ)(c:List aL)(l:List bu)(part:List Nat)(day:Int):((rN ds c l part day).map (·.1)).Nodup/\∀x,x∈(rN ds c l part day).map (·.1)↔x.part=part/\(x.fC,x.day)∈tG ds c l part day:=by
 unfold rN tG
 cases bD (O6 c l day).1 part with
 | none=>exact⟨a7,λx=>by simp⟩
 | some p=>
  simp only;split
  ·exact⟨a7,λx=>by simp⟩
  ·have key:∀(ds:List dZ) (m:List (kI×Bool)),(m.map (·.1)).Nodup->((ds.foldl (ja l part day p.kind) m).map (·.1)).Nodup/\∀x,x∈(ds.foldl (ja l part day p.kind) m).map (·.1)↔x∈m.map (·.1)\/(x.part=part/\(x.fC,x.day)∈ds.filterMap λd=>if rK d=true/\d.kind=p.kind/\(lF d l part day).2=true then some (d.name,(lF d l part day).1) else none):=by
    intro ds
    induction ds with
    | nil=>exact λm h=>⟨h,λx=>by simp⟩
    | cons d ds ih=>
     intro m h;rw[b6,List.filterMap_cons];rw[show ja l part day p.kind m d=if rK d=true/\d.kind=p.kind/\(lF d l part day).2=true then cq ⟨part,d.name,(lF d l part day).1⟩ true m else m from rfl];by_cases hd:rK d=true/\d.kind=p.kind/\(lF d l part day).2=true
     ·rw[ut hd,ut hd];obtain⟨i1,i2⟩:=ih _ (tI (k:=(⟨part,d.name,(lF d l part day).1⟩:kI)) (v:=true) h);refine⟨i1,λx=>?_⟩;rw[i2,On,cb];obtain⟨x1,x2,x3⟩:=x;simp only[kI.mk.injEq,m9];constructor
      ·rintro((⟨rfl,rfl,rfl⟩ | h) | ⟨h1,h2⟩)
       ·exact .inr ⟨rfl,.inl ⟨rfl,rfl⟩⟩
       ·exact .inl h
       ·exact .inr ⟨h1,.inr h2⟩
      ·rintro(h | ⟨h1,⟨rfl,rfl⟩ | h2⟩)
       ·exact .inl (.inr h)
       ·exact .inl (.inl ⟨h1,rfl,rfl⟩)
       ·exact .inr ⟨h1,h2⟩
     ·rw[v6 hd,v6 hd];exact ih m h
   obtain⟨k1,k2⟩:=key ds [] a7;exact⟨k1,λx=>by rw[k2];simp⟩
def Cz:∀(s acc:List (List Nat)),acc.Pairwise (λa b=>fe a b=true)->s.Pairwise (λa b=>wI a b=true)->(∀a∈acc,∀b∈s,wI a b=true)->
 (s.foldl (λacc x=>if acc.getLast?=some x then acc else acc++[x]) acc).Pairwise (λa b=>fe a b=true)/\∀x,x∈s.foldl (λacc x=>if acc.getLast?=some x then acc else acc++[x]) acc↔x∈acc\/x∈s
 | [],acc,h,_,_=>⟨h,λx=>by simp⟩
 | y::s,acc,h,hs,ha=>by
  rw[cv] at hs;rw[b6];by_cases hl:acc.getLast?=some y
  ·rw[ut hl];have hy:y∈acc:=List.mem_of_getLast? hl;obtain⟨i1,i2⟩:=Cz s acc h hs.2 λa h1 b h2=>ha a h1 b (ax _ h2);refine⟨i1,λx=>?_⟩;rw[i2,cb];constructor
   ·rintro(h | h)
    ·exact .inl h
    ·exact .inr (.inr h)
   ·rintro(h | rfl | h)
    ·exact .inl h
    ·exact .inl hy
    ·exact .inr h
  ·rw[v6 hl]
   have hlt:∀a∈acc,fe a y=true:=by
    intro a hm;have h1:=ha a hm y bc
    rcases jK a y with k | k | k
    ·exact k
    ·exfalso;subst k
     obtain⟨z,hz⟩:∃z,acc.getLast?=some z:=by
      cases hq:acc.getLast? with
      | none=>rw[List.getLast?_eq_none_iff] at hq;subst hq;cases hm
      | some z=>exact⟨z,rfl⟩
     obtain⟨pre,rfl⟩:=List.getLast?_eq_some_iff.1 hz
     rcases mem_append.1 hm with hm | hm
     ·have h2:=(List.pairwise_append.1 h).2.2 a hm z (rx rfl);have h3:=ha z (List.mem_append_right _ (rx rfl)) a bc;unfold wI at h3;rw[h2] at h3;cases h3
     ·rw[t6 hm] at hl;exact hl hz
    ·unfold wI at h1;rw[k] at h1;cases h1
   obtain⟨i1,i2⟩:=Cz s (acc++[y]) (List.pairwise_append.2 ⟨h,List.pairwise_singleton _ _,λa h1 b h2=>by rw[t6 h2];exact hlt a h1⟩) hs.2 (by
    intro a h1 b h2
    rcases mem_append.1 h1 with h1 | h1
    ·exact ha a h1 b (ax _ h2)
    ·rw[t6 h1];exact hs.1 b h2)
   refine⟨i1,λx=>?_⟩;rw[i2,mem_append,List.mem_singleton,cb,or_assoc]
def Sq(l:List (List Nat)):(LL l).Pairwise (λa b=>fe a b=true)/\∀x,x∈LL l↔x∈l:=by
 obtain⟨h1,h2⟩:=Cz (dX l) [] .nil (Ge l) λa h=>by cases h
 refine⟨h1,λx=>?_⟩;show x∈rJ (dX l)↔_;unfold rJ;rw[h2];simp[(qE l).mem_iff]
def OL{K l:List (List Nat)}(hn:K.Nodup)(hm:∀x,x∈K↔x∈l):dX K=LL l:=by
 obtain⟨h1,h2⟩:=Sq l
 have hd:(LL l).Nodup:=h1.imp λh e=>by rw[e,cS] at h;cases h
 refine(zr ((List.perm_ext_iff_of_nodup hd hn).2 λx=>by rw[h2,hm]) ?_).symm;unfold qT
 exact h1.imp λ{a b} h=>by
  cases k:fe b a with
  | false=>rfl
  | true=>have:=fp h k;rw[cS] at this;cases this
def Ns{c:List aL}{ps:List ai}{e:bu}(h:(aO c ps e).2=0):dE e=true:=by
 unfold aO at h;cases h1:Proofs.dF c ps
 ·rw[h1,v6 ii] at h;exact un h ii
 cases h2:dE e
 ·rw[h1,ut rfl,h2,v6 ii] at h;exact un h ii
 ·rfl
def E7{u:Bool}{c:List aL}{dmg:bx}:∀(l:List bu) (s:List ai),(JJ u c dmg l s).2=0->∀e∈l,dE e=true
 | [],_,_,_,h=>by cases h
 | e::r,s,h,x,hx=>by
  rw[JJ] at h;by_cases h0:(aO c s e).2=0
  ·rw[ut h0] at h
   rcases t7 hx with rfl | hx
   ·exact Ns h0
   ·exact E7 r _ h x hx
  ·rw[v6 h0] at h;exact un h h0
def Po{c:List aL}{l:List bu}{day:Int}(h:(O6 c l day).2=0):∀e∈l,e.day<=day->0<=e.day/\e.day<=40000:=by
 intro e he hd;unfold O6 at h;split at h
 ·have:=E7 _ _ h e ((uU _ _).mem_iff.2 (mem_filter.2 ⟨he,by unfold eN;simp;omega⟩));unfold dE at this;simp only[bv,Bool.not_eq_true',wn] at this;obtain⟨_,h1,h2,_⟩:=this;omega
 ·exact un h ii
def RN(c:List aL)(l:List bu)(day:Int):(AQ c (dR (eN day) l)).1=(O6 c l day).1/\(AQ c (dR (eN day) l)).2.2=(O6 c l day).2:=by
 unfold AQ O6;split
 ·exact Kv _ _ _
 ·exact⟨rfl,rfl⟩
def vF(a b:aD):Bool:=decide (a.kind<b.kind)||(decide (a.kind=b.kind)&&(fe a.part b.part||(decide (a.part=b.part)&&fe a.name b.name)))
def By(x:aD):List aD->List aD
 | []=>[x]
 | y::l=>if vF y x=true then y::By x l else x::y::l
def gU:List aD->List aD
 | []=>[]
 | x::l=>By x (gU l)
def tD(l:List aD):List aD:=(l.foldl (λm f=>cq f true m) ([]:List (aD×Bool))).map (·.1)
def jc(c:List aL)(dmg:bx)(b:dY)(l:List bu)(vehicle:List Nat)(day:Int):List aD:=
 match bD (runN c dmg l day).1 vehicle with
 | none=>[⟨4,vehicle,[]⟩]
 | some v=>if (runN c dmg l day).2.2≠0\/v.bo=true\/((dg c v.kind).getD aL.zero).vehicle=false then [⟨4,vehicle,[]⟩]
  else gU (tD (sf c b l (runN c dmg l day).1 vehicle day v))
def sj(x:aD):∀l,(By x l).Perm (x::l)
 | []=>.refl _
 | y::l=>by
  rw[By];split
  ·exact((sj x l).cons y).trans (.swap x y l)
  ·exact .refl _
def fJ:∀l,(gU l).Perm l
 | []=>.refl _
 | x::l=>(sj x _).trans ((fJ l).cons x)
def CY(a b:aD):vF a b=true\/a=b\/vF b a=true:=by
 obtain⟨k,p,n⟩:=a;obtain⟨k2,p2,n2⟩:=b;unfold vF;simp only[cc,bv,wp,aD.mk.injEq]
 rcases ct k k2 with h | h | h
 ·exact .inl (.inl h)
 ·rcases jK p p2 with h1 | h1 | h1
  ·exact .inl (.inr ⟨h,.inl h1⟩)
  ·rcases jK n n2 with h2 | h2 | h2
   ·exact .inl (.inr ⟨h,.inr ⟨h1,h2⟩⟩)
   ·exact .inr (.inl ⟨h,h1,h2⟩)
   ·exact .inr (.inr (.inr ⟨h.symm,.inr ⟨h1.symm,h2⟩⟩))
  ·exact .inr (.inr (.inr ⟨h.symm,.inl h1⟩))
 ·exact .inr (.inr (.inl h))
def oC{a b c:aD}(h1:vF a b=true)(h2:vF b c=true):vF a c=true:=by
 unfold vF at *;simp only[cc,bv,wp] at *
 rcases h1 with h1 | ⟨e1,h1⟩<;>rcases h2 with h2 | ⟨e2,h2⟩
 ·exact .inl i5
 ·exact .inl i5
 ·exact .inl i5
 ·refine .inr ⟨e1.trans e2,?_⟩
  rcases h1 with h1 | ⟨f1,h1⟩<;>rcases h2 with h2 | ⟨f2,h2⟩
  ·exact .inl (fp h1 h2)
  ·exact .inl (f2▸h1)
  ·exact .inl (f1▸h2)
  ·exact .inr ⟨f1.trans f2,fp h1 h2⟩
def CX(a:aD):vF a a=false:=by
 unfold vF;rw[cS,cS];simp
def Fb{x:aD}:∀{l:List aD},l.Pairwise (λa b=>vF a b=true)->x∉l->(By x l).Pairwise λa b=>vF a b=true
 | [],_,_=>.cons (λ_ h=>by cases h) .nil
 | y::l,h,hx=>by
  have h0:=h;rw[cv] at h;rw[cb,not_or] at hx;rw[By];split
  ·rename_i c;refine .cons (λz hz=>?_) (Fb h.2 hx.2)
   rcases t7 ((sj x l).mem_iff.1 hz) with rfl | hz
   ·exact c
   ·exact h.1 z hz
  ·rename_i c
   have hxy:vF x y=true:=by
    rcases CY x y with k | k | k
    ·exact k
    ·exact un k hx.1
    ·exact un k c
   refine .cons (λz hz=>?_) h0
   rcases t7 hz with rfl | hz
   ·exact hxy
   ·exact oC hxy (h.1 z hz)
def ru:∀{l:List aD},l.Nodup->(gU l).Pairwise λa b=>vF a b=true
 | [],_=>.nil
 | x::l,h=>by
  rw[bt] at h;exact Fb (ru h.2) λk=>h.1 ((fJ l).mem_iff.1 k)
def FW{k:aD}{v:Bool}:∀{m:List (aD×Bool)} {e:aD×Bool},e∈cq k v m->e=(k,v)\/e∈m
 | [],e,h=>by unfold cq at h;exact .inl (t6 h)
 | a::m,e,h=>by
  unfold cq at h;split at h
  ·rcases t7 h with rfl | h
   ·exact .inl rfl
   ·exact .inr (ax _ h)
  ·rcases t7 h with rfl | h
   ·exact .inr bc
   ·exact(FW h).imp id (ax _)
def BV{k:aD}{v:Bool}:∀{m:List (aD×Bool)},(m.map (·.1)).Nodup->((cq k v m).map (·.1)).Nodup
 | [],_=>by unfold cq;simp
 | e::m,h=>by
  rw[bi,bt] at h;unfold cq;split
  ·rename_i hk;rw[bi,bt,hk];exact h
  ·rename_i hk;rw[bi,bt];refine⟨λhm=>?_,BV h.2⟩;obtain⟨x,hx,e1⟩:=mem_map.1 hm
   rcases FW hx with rfl | hx
   ·exact hk e1
   ·exact h.1 (e1▸bk hx)
def C7:∀(l:List aD) (m:List (aD×Bool)),(m.map (·.1)).Nodup->((l.foldl (λm f=>cq f true m) m).map (·.1)).Nodup/\∀f,f∈(l.foldl (λm f=>cq f true m) m).map (·.1)↔f∈m.map (·.1)\/f∈l
 | [],m,h=>⟨h,λf=>by simp⟩
 | x::l,m,h=>by
  obtain⟨i1,i2⟩:=C7 l (cq x true m) (BV h);refine⟨i1,λf=>?_⟩;rw[b6,i2,<-kQ,<-kQ,qo,cc,wp,cb];constructor
  ·rintro((h | h) | h)
   ·exact .inr (.inl h)
   ·exact .inl h
   ·exact .inr (.inr h)
  ·rintro(h | h | h)
   ·exact .inl (.inr h)
   ·exact .inl (.inl h)
   ·exact .inr h
def Lu{l:List aD}{f:aD}:f∈tD l↔f∈l:=by
 have:=(C7 l [] a7).2 f;unfold tD;rw[this];simp
def FN(l:List aD):(tD l).Nodup:=(C7 l [] a7).1
def rM:∀(n:Nat) {r:iL} {ls:List (List Nat)},∀x∈dm n r ls,x∈r.map (·.1)
 | 0,_,_,x,h=>by cases h
 | n+1,r,ls,x,h=>by
  rw[dm] at h;split at h
  ·cases h
  ·rcases mem_append.1 h with h | h
   ·obtain⟨e,he,rfl⟩:=mem_map.1 h;exact bk (mem_filter.1 he).1
   ·obtain⟨e,he,rfl⟩:=mem_map.1 (rM n x h);exact bk (mem_filter.1 he).1
def Fe{ps:List ai}(ho:eu (ps.map ai.name)=true){part x:List Nat}(h:x∈ea ps part):(dq ps x).name=x:=by
 unfold ea at h;split at h
 ·have h:=rM _ x ((qE _).mem_iff.1 h);rw[LG ho] at h;unfold JT at h;rw[List.map_map] at h;obtain⟨p,hp,rfl⟩:=mem_map.1 h;have hf:=kM ho (mem_filter.1 hp).1;show(dq ps p.name).name=p.name;unfold dq;rw[hf];rfl
 ·cases h
def MF{c:List aL}{b:dY}{l:List bu}{ps:List ai}{day:Int}{p:ai}{f:aD}(h:f∈od c b l ps day p):f.part=p.name/\f.kind≠4:=by
 unfold od at h
 rcases mem_append.1 h with h | h
 ·obtain⟨_,_,rfl⟩:=mem_map.1 h;exact⟨rfl,show(1:Int)≠4 by decide⟩
 rcases mem_append.1 h with h | h
 ·obtain⟨_,_,rfl⟩:=mem_map.1 h;exact⟨rfl,show(5:Int)≠4 by decide⟩
 rcases mem_append.1 h with h | h
 ·obtain⟨_,_,rfl⟩:=mem_map.1 h;exact⟨rfl,show(3:Int)≠4 by decide⟩
 split at h
 ·cases h
 ·rw[t6 h];exact⟨rfl,show(2:Int)≠4 by decide⟩
def LO{c:List aL}{b:dY}{l:List bu}{ps:List ai}{vehicle:List Nat}{day:Int}{v:ai}(ho:eu (ps.map ai.name)=true)(hv:bD ps vehicle=some v):
 (gU (tD (sf c b l ps vehicle day v))).Pairwise (λa b=>vF a b=true)/\∀f∈gU (tD (sf c b l ps vehicle day v)),(f.part=vehicle\/f.part∈ea ps vehicle)/\f.kind≠4:=by
 refine⟨ru (FN _),λf hf=>?_⟩;have hf:=Lu.1 ((fJ _).mem_iff.1 hf);unfold sf at hf
 rcases mem_append.1 hf with hf | hf
 ·obtain⟨h1,h2⟩:=MF hf;exact⟨.inl (h1.trans (ic hv).2),h2⟩
 rcases mem_append.1 hf with hf | hf
 ·obtain⟨n,hn,hf⟩:=List.mem_flatMap.1 hf;obtain⟨h1,h2⟩:=MF hf;exact⟨.inr (by rw[h1,Fe ho hn];exact hn),h2⟩
 ·obtain⟨_,_,rfl⟩:=mem_map.1 hf;exact⟨.inl rfl,show(6:Int)≠4 by decide⟩
abbrev T3(l:List aD):Prop:=l.Pairwise λa b=>vF a b=true
def Gd{c:List aL}:∀(l:List bu) (i:Nat) (s:List ai),(∀p∈s,fj p)->(∀e∈l,lK e)->(pV c i l s).1.length<=s.length+l.length
 | [],_,s,_,_=>ap _
 | e::r,i,s,hp,he=>by
  obtain⟨q1,q2,_,_⟩:=om (c:=c) (ps:=s) (e:=e) hp (he e bc);rw[pV];split
  ·have:=Gd (c:=c) r (i+1) (aO c s e).1 q1 λx hx=>he x (ax _ hx);rw[jp];omega
  ·exact aS _
def OG{c:List aL}{l:List bu}{day:Int}(hlen:l.length<20)(hl:∀e∈l,lK e):(AQ c (dR (eN day) l)).1.length<=20:=by
 unfold AQ;split
 ·refine a8 (Gd _ _ _ (λp h=>by cases h) λe he=>hl e (xz he)) ?_;have:=xw l (eN day);simp only[i7];omega
 ·exact aS _
def Hp{d:dZ}{l:List bu}{part:List Nat}{day:Int}(h:∀e∈l,e.day<=day->0<=e.day/\e.day<=40000):∀n∈qU d l part day,0<=n/\n<=40000:=by
 intro n hn;obtain⟨e,he,rfl⟩:=mem_map.1 hn;obtain⟨h1,h2⟩:=mem_filter.1 he;rw[bv] at h2;unfold LA at h2;rw[bv] at h2;exact h e h1 (ww h2.1.2)
def I2(ds:List dZ)(c:List aL)(l:List bu)(part:List Nat)(day:Int)(hd:∀d∈ds,Cf d)(hdl:ds.length<=1000000)(hc:mr c)(hlen:l.length<20)(hl:∀e∈l,lK e):PC prog 63 [an 5 ds bj,.ag [an 3 c ao],an 14 l aq,ah part,ab day] (·=lS nM ak (rN ds c l part day)):=by
 have hat:=OO c l day hc hlen hl;obtain⟨ha1,ha2⟩:=RN c l day;have had:=Po (c:=c) (l:=l) (day:=day);have hpl:=OG (c:=c) (day:=day) hlen hl;obtain⟨R,hR⟩:∃R,R=rN ds c l part day:=⟨_,rfl⟩;rw[<-hR];unfold rN at hR;generalize AQ c (dR (eN day) l)=q at hat ha1 ha2 hpl;rw[<-ha2] at had;rw[<-ha1,<-ha2] at hR;clear ha1 ha2;have hf:=gb q.1 part i5
 refine pB 85 Tryz.func63 ?_;refine(zV) ?_;refine zZ ((0,an 5 ds bj)::(6,.ip [an 3 c ao])::(2,an 14 l aq)::(3,ah part)::[(4,ab day)]) 0 rfl (gu @an.eq_1)<|zA ((0,an 5 ds bj)::(6,.ip [an 3 c ao])::(2,an 14 l aq)::(3,ah part)::[(4,ab day)]) [] zH<|(jt)<|(zK hat (hfl:=.inr (bg.refl rfl)))<|(cJ @qD.eq_1)<|zA ((14,ab q.2.2)::(12,.ptr 1 0)::(11,.map 0)::(0,an 5 ds bj)::(2,an 14 l aq)::(3,ah part)::[(4,ab day)]) [bE nM ak [],.cells [an 14 q.1 ae]] (bX (show SO.map [] [] none=bE nM ak [] from rfl)) ?_;refine zZ ((14,ab q.2.2)::(12,.ip [an 14 q.1 ae])::(11,.map 0)::(0,an 5 ds bj)::(2,an 14 l aq)::(3,ah part)::[(4,ab day)]) 1 rfl ⟨.inl rfl,.inr (.ptr rfl (bg.refl rfl) (aS _)),zj⟩<|zA ((14,ab q.2.2)::(12,.ip [an 14 q.1 ae])::(11,.map 0)::(0,an 5 ds bj)::(2,an 14 l aq)::(3,ah part)::[(4,ab day)]) [bE nM ak []] zH<|(zC) ?_;refine aT.k i4 rfl rfl i4 rfl zc (hf) (zw) (.inr (bg.refl (by cases bD q.1 part<;>rfl))) ?_
 cases hm:bD q.1 part with
 | none=>
  rw[hm] at hR;simp only at hR;refine(cJ (gm @iV.eq_1 @ae.eq_1 @ai.zero.eq_1 @oz)) ?_;cases g0:decide (q.2.2=0)
  ·exact(aw g0)<|(cF)<|zo [.tmp 10] (r:=lS nM ak []) (hw:=l9 (λ_=>rfl) rfl) (hq:=by rw[hR])
  ·exact(aw g0)<|(cF)<|zo [.tmp 10] (r:=lS nM ak []) (hw:=l9 (λ_=>rfl) rfl) (hq:=by rw[hR])
 | some p=>
  rw[hm] at hR;simp only at hR;refine(cJ (cG @iV.eq_1 @ae.eq_1 @oz)) ?_;cases g0:decide (q.2.2=0)
  ·exact(aw g0)<|(cF)<|zo [.tmp 10] (r:=lS nM ak []) (hw:=l9 (λ_=>rfl) rfl) (hq:=by rw[hR,ut (.inl (wt g0))])
  cases g1:p.bo;rotate_left
  ·exact(aw (bq g0 g1))<|(cF)<|zo [.tmp 10] (r:=lS nM ak []) (hw:=l9 (λ_=>rfl) rfl) (hq:=by rw[hR,ut (.inr g1)])
  have hq0:=ww g0;have hbd:=λd=>Hp (d:=d) (part:=part) (had hq0);rw[v6 (by rw[g1];simp[hq0])] at hR
  refine(aw (bq g0 g1))<|(kY)<|zA ((50,ab 0)::(49,ab ds.length)::(48,an 5 ds bj)::(15,.ptr 1 0)::(11,.map 0)::(2,an 14 l aq)::(3,ah part)::[(4,ab day)]) [bE nM ak [],.cells [ah p.name,ah p.kind,ah p.aR,ah p.slot,ab p.made,ab p.since,ak false,an 2 p.props aH,ab p.l1,ab p.l2,ab p.l3,ab p.l4,ab p.l5,ab p.l6]] zH ?_;refine zZ ((50,ab 0)::(49,ab ds.length)::(48,an 5 ds bj)::(15,.ip [ah p.name,ah p.kind,ah p.aR,ah p.slot,ab p.made,ab p.since,ak false,an 2 p.props aH,ab p.l1,ab p.l2,ab p.l3,ab p.l4,ab p.l5,ab p.l6])::(11,.map 0)::(2,an 14 l aq)::(3,ah part)::[(4,ab day)]) 1 rfl ⟨.inl rfl,.inl rfl,.inl rfl,.inr (.ptr rfl (bg.refl rfl) (aS _)),zj⟩<|zA ((50,ab 0)::(49,ab ds.length)::(48,an 5 ds bj)::(15,.ip [ah p.name,ah p.kind,ah p.aR,ah p.slot,ab p.made,ab p.since,ak false,an 2 p.props aH,ab p.l1,ab p.l2,ab p.l3,ab p.l4,ab p.l5,ab p.l6])::(11,.map 0)::(2,an 14 l aq)::(3,ah part)::[(4,ab day)]) [bE nM ak []] zH<|(zs) ?_;refine Hf ds (λk (mm:List (kI×Bool))=>mm=(ds.take k).foldl (ja l part day p.kind) []) (λk mm=>(50,ab k)::(49,ab ds.length)::(48,an 5 ds bj)::(15,.ip [ah p.name,ah p.kind,ah p.aR,ah p.slot,ab p.made,ab p.since,ak false,an 2 p.props aH,ab p.l1,ab p.l2,ab p.l3,ab p.l4,ab p.l5,ab p.l6])::(11,.map 0)::(2,an 14 l aq)::(3,ah part)::[(4,ab day)]) (λk mm=>[bE nM ak mm]) ([]) zH i4 ?_;intro k mm hk hall;refine zT ds k ?_ ?_;rintro rfl;rotate_left;intro d hx hlt;rotate_left
  ·refine(gh) ?_;rw[ba] at hall
   exact(zV)<|zo [.tmp 10] (r:=lS nM ak mm) (hw:=l9 (λ_=>rfl) rfl) (hq:=by rw[hR,<-hall])
  have hsn:(ds.take (k+1)).foldl (ja l part day p.kind) []=ja l part day p.kind mm d:=by rw[cD hx,b5,<-hall];rfl
  have hdo:=hd d (bb hx);have hdv:=IB d hdo;rw[show ja l part day p.kind mm d=if rK d=true/\d.kind=p.kind/\(lF d l part day).2=true then cq ⟨part,d.name,(lF d l part day).1⟩ true mm else mm from rfl] at hsn
  refine(gB)<|(aw (gm hlt (aQ (e:=5) (enc:=bj) (λ_=>rfl) hx) @bj.eq_1 @oz))<|(aw @oz)<|(zC)<|(zK hdv) ?_
  cases g2:rK d
  ·rw[v6 (by rw[g2];simp)] at hsn
   refine(zR)<|(zY) ?_;refine aE.exit ?_
   (try change aE _ _ _ _ _)
   refine(aw (zi hlt hdl)) ?_;refine wq hlt (mm) zH hsn.symm
  cases g3:decide (d.kind=p.kind)
  ·rw[v6 (by rintro⟨_,h,_⟩;exact wt g3 h)] at hsn
   refine(cJ (bq g3 @oz))<|(zY) ?_;refine aE.exit ?_
   (try change aE _ _ _ _ _)
   refine(aw (zi hlt hdl)) ?_;refine wq hlt (mm) zH hsn.symm
  refine(cJ (bq g3 @oz))<|(zN) ?_
  have hw:0<=d.within/\d.within<=40000:=by
   unfold rK at g2;simp only[bv,wp] at g2;exact g2.2.2.2.2.2
  have hlast:=IV d l part day i5 hw (hbd d);generalize lF d l part day=la at hlast hsn
  refine(zC)<|(zK hlast)<|(zR) ?_
  cases g4:la.2
  ·rw[v6 (by rw[g4];simp)] at hsn
   refine(aw g4)<|(zN)<|(aw (zi hlt hdl)) ?_;refine wq hlt (mm) zH hsn.symm
  ·rw[ut ⟨g2,ww g3,g4⟩] at hsn
   refine(aw g4)<|(zY)<|(zs) ?_;refine aE.r0 i4 (by simp only[dJ,cj,an,aJ,m8,m7,↓reduceIte,ad,af,am,ac,al,ar,az,bT,GK (l:=mm)];first | done | rfl) ?_;refine(aw (zi hlt hdl)) ?_;refine wq hlt (cq ⟨part,d.name,la.1⟩ true mm) zH hsn.symm
def IT(L:List (List Nat×Bool)):PC prog 65 [lS AV.str ak L] (·=.fn 149 [] [.ip [lS AV.str ak L]]):=by
 refine pB 4 Tryz.func65 ?_;refine(zV) ?_;refine zZ [(1,.ip [lS AV.str ak L])] 0 rfl (gu @an.eq_1) ?_
 (try change aE _ _ _ _ _)
 exact(zV)<|zo [.tmp 2]
def gO(lc:jy):SO:=.loop lc .ready none [(2,.ptr 1 0)]
def HV(o:Nat)(lc:jy)(h:¬1=o):cE o (gO lc)=gO lc:=by
 simp[gO,cE,eK,aY,Ev.names,h]
def sH(lc:jy):Prop:=(prog.funcs[(233:Nat)]?.bind λfn=>fn.body.bind uO)=some (lc.a,lc.b)
def Gz(L:List (List Nat×Bool))(lc:jy)(hcd:sH lc)(hln:lc.n=13)(hlp:lc.ps=#[7])(hlen:L.length<=100000)(hnd:(L.map (·.1)).Nodup):
 SC prog 149 [.a (.fn (.yield lc.id) [] []),.ip [lS AV.str ak L]] [gO lc,.cells [bG],.gone] [2] (λr S'=>r=.cm []/\∃out:List (List Nat),out.Perm (L.map (·.1))/\S'=[gO lc,.cells [bZ 2 1 out.length],eU out]):=by
 refine TZ 14 func149 ?_;have hk3:=HV 3 lc ii;refine(zC) ?_;refine aT.TW (ks:=L.map λe=>.str e.1) (vs:=L.map λe=>ak e.2) i4 rfl rfl i4 rfl (by simp only[aJ]) ?_;intro bs c hbs;refine aT.r0 i4 (by simp only[dJ,cj,an,aJ,m8,m7,↓reduceIte,ad,af,am,ac,al,ar,az,bT,↓hk3];first | done | rfl) ?_
 (repeat refine aE.seq ?_)
 refine aE.block (aE.loop (λm st=>∃pos:List Nat,pos.Nodup/\(∀j∈pos,j<L.length)/\L.length-pos.length=m/\st=⟨[(0,.a (.fn (.yield lc.id) [] [])),(5,.ptr 3 0),(1000000,.ptr 0 0),(1000001,.ptr 1 0)],14,[gO lc,.cells [bZ 2 1 (bm L pos).length],eU ((bm L pos).map (·.1)),.oT (L.map λe=>.str e.1) (L.map λe=>ak e.2) bs c pos],[]⟩) L.length (bX (xX @bm.eq_1 @List.filterMap_nil.{0,0} @map_nil.{0,0} @i7.{0} @ly @gl)) ⟨[],a7,λj hj=>by simp at hj,rfl,rfl⟩ (by rintro m st ⟨pos,_,_,_,rfl⟩;rfl) ?_);rintro m st ⟨pos,hpn,hpl,rfl,rfl⟩;refine aE.post ?_;refine(zC) ?_;refine aT.TT i4 rfl rfl i4 rfl rfl (λj hj=>by rw[aj];exact hpl j hj) ?_ ?_
 ·intro hall
  refine(zR)<|(gh) ?_;refine⟨⟨[(1000000,.ptr 0 0),(1000001,.ptr 1 0)],14,[gO lc,.cells [bZ 2 1 (bm L pos).length],eU ((bm L pos).map (·.1))],[]⟩,zH,?_⟩
  simp only[eQ,cX,bU,bK,if_true];exact zP [] (hq:=by (try simp only[ew,bH]);first | done | (exact⟨trivial,(bm L pos).map (·.1),(mF hpn hpl (λj hj=>hall j (by rw[aj];exact hj))).map _,by rw[aj]⟩))
 ·intro j hj hjn;rw[aj] at hj;obtain⟨e,he⟩:∃e,L[j]?=some e:=⟨L[j],li hj⟩;obtain⟨q1,q2,q3⟩:=qA hpn hpl hj hjn;have hsn:=kP L pos he
  refine(zR)<|(gB)<|(zC) ?_;refine aT.TN (k:=.str e.1) (v:=ak e.2) i4 rfl rfl i4 rfl rfl (by rw[a6,he];rfl) (by rw[a6,he];rfl) ?_;refine(zR)<|(zC)<|oA [(10,.a (.fn (.yield lc.id) [] [])),(11,ah e.1),(0,.a (.fn (.yield lc.id) [] [])),(5,.ptr 3 0),(1000000,.ptr 0 0),(1000001,.ptr 1 0)] [gO lc,.cells [bZ 2 1 (bm L pos).length],eU ((bm L pos).map (·.1)),.oT (L.map λe=>.str e.1) (L.map λe=>ak e.2) bs c (pos++[j])] zH ?_;refine aT.y (vs:=[ah e.1]) (oo:=0) i4 rfl rfl i4 rfl rfl rfl i4 rfl (by rw[hlp];rfl) (by rw[hln];rfl) (by rw[hln];decide) (by rw[hlp,hln];rfl) λro'=>?_
  have hcd2:=hcd;unfold sH at hcd2;rw[dd] at hcd2;have hcd3:=Option.some.inj (hcd2.symm.trans i4);obtain⟨ha,hbb⟩:=Prod.mk.inj hcd3;rw[ha,hlp,hln];have hhl:(bm L pos).length=((bm L pos).map (·.1)).length:=(aj _).symm;rw[hhl]
  have hol:((bm L pos).map (·.1)).length<=100000:=by rw[<-hhl];exact a8 (b8 _ _) i5
  generalize hout:(bm L pos).map (·.1)=out at hol;change aE _ _ _ ⟨[(7,ah e.1),(2,.ptr 1 0),(20000010,.a (.fn (.yield lc.id) [] [])),(20000011,ah e.1),(20000000,.a (.fn (.yield lc.id) [] [])),(20000005,.ptr 3 0),(21000000,.ptr 0 0),(21000001,.ptr 1 0)],13,[gO lc,.cells [bZ 2 1 out.length],eU out,.oT (L.map λe=>.str e.1) (L.map λe=>ak e.2) bs c (pos++[j])],[]⟩ _;refine(zV) ?_;refine⟨rfl,0,none,[(2,.ptr 1 0)],rfl,?_⟩;rw[hbb];refine(zB) ?_;change aE _ _ _ ⟨_,13,[.loop lc .busy none [(2,.ptr 1 0)],.cells [bZ 2 1 out.length],eU out,.oT (L.map λe=>.str e.1) (L.map λe=>ak e.2) bs c (pos++[j])],[]⟩ _;by_cases ho:out=[]
  ·have hE1:bZ 2 1 (bm L (pos++[j])).length=.buf 2 1 1 none:=by rw[hsn,md,hhl,hout,ho];rfl
   have hE2:eU ((bm L (pos++[j])).map (·.1))=.cells [ah e.1]:=by rw[hsn,bh,hout,ho];rfl
   rw[ho,gl,show bZ 2 1 ([]:List (List Nat)).length=bG from rfl];refine(zV) ?_;refine⟨rfl,0,.busy,none,[(2,.ptr 1 0)],rfl,?_⟩;simp only[yb,laid,ac,ay,↓reduceIte]
   refine oA [(12,ak true),(0,.a (.fn (.yield lc.id) [] [])),(5,.ptr 3 0),(1000000,.ptr 0 0),(1000001,.ptr 1 0)] [gO lc,.cells [.buf 2 1 1 none],.cells [ah e.1],.oT (L.map λe=>.str e.1) (L.map λe=>ak e.2) bs c (pos++[j])] (Fg.rn (f':=[(12,ak true),(0,.a (.fn (.yield lc.id) [] [])),(5,.ptr 3 0),(1000000,.ptr 0 0),(1000001,.ptr 1 0)]) (n:=14) (S':=[gO lc,.cells [.buf 2 1 1 none],.cells [ah e.1],.oT (L.map λe=>.str e.1) (L.map λe=>ak e.2) bs c (pos++[j])]) [0,1,5,3] ii rfl (Mf (lM @gO.eq_1 @Ax.eq_1 @Aw.eq_1 @yd.eq_1 @yb.eq_1)) (Mg (lM @gO.eq_1 @Ax.eq_1 @Aw.eq_1 @yd.eq_1 @yb.eq_1)))<|(zR)<|(zN) ?_;exact⟨⟨[(0,.a (.fn (.yield lc.id) [] [])),(5,.ptr 3 0),(1000000,.ptr 0 0),(1000001,.ptr 1 0)],14,[gO lc,.cells [.buf 2 1 1 none],.cells [ah e.1],.oT (L.map λe=>.str e.1) (L.map λe=>ak e.2) bs c (pos++[j])],[]⟩,(bX @gO.eq_1),L.length-(pos++[j]).length,_,by rw[md];simp only[jp,i7];omega,(bX (cG @gO.eq_1 hE1 hE2)),pos++[j],q1,q2,rfl,rfl⟩
  ·have hk1:¬out.length=0:=λh=>ho (t8 h)
   have hE1:bZ 2 1 (bm L (pos++[j])).length=.buf 2 (out.length+1) 1 none:=by rw[hsn,md,hhl,hout];exact ef gt
   have hE2:eU ((bm L (pos++[j])).map (·.1))=.cells ((out++[e.1]).flatMap (aB ah)):=by rw[hsn,bh,hout];exact fw gt
   have hcl3:=aZ (enc:=aB ah) (e:=1) (λ_=>rfl) out;have hkc3:=λo=>bC (enc:=aB ah) (λ_=>rfl) o out;have happ:=mb (enc:=aB ah) (e:=1) (λ_=>rfl) (λ_=>rfl) 2 out e.1;rw[show aB ah e.1=[ah e.1] from rfl,c6] at happ;rw[c6] at hcl3;rw[fw ho,ef hk1];refine(aw (xX hkc3 hcl3 @c6 (show out.length<=1000000 by omega) @ap happ)) ?_;refine⟨rfl,0,.busy,none,[(2,.ptr 1 0)],rfl,?_⟩;simp only[yb,laid,ac,ay,↓reduceIte]
   refine oA [(12,ak true),(0,.a (.fn (.yield lc.id) [] [])),(5,.ptr 3 0),(1000000,.ptr 0 0),(1000001,.ptr 1 0)] [gO lc,.cells [.buf 2 (out.length+1) 1 none],.cells ((out++[e.1]).flatMap (aB ah)),.oT (L.map λe=>.str e.1) (L.map λe=>ak e.2) bs c (pos++[j])] (bX (lM @gO.eq_1 @yb.eq_1 @Ax.eq_1 @Aw.eq_1 @yd.eq_1))<|(zR)<|(zN) ?_;exact⟨⟨[(0,.a (.fn (.yield lc.id) [] [])),(5,.ptr 3 0),(1000000,.ptr 0 0),(1000001,.ptr 1 0)],14,[gO lc,.cells [.buf 2 (out.length+1) 1 none],.cells ((out++[e.1]).flatMap (aB ah)),.oT (L.map λe=>.str e.1) (L.map λe=>ak e.2) bs c (pos++[j])],[]⟩,(bX @gO.eq_1),L.length-(pos++[j]).length,_,by rw[md];simp only[jp,i7];omega,(bX (cG @gO.eq_1 hE1 hE2)),pos++[j],q1,q2,rfl,rfl⟩
def Dm(L:List (List Nat×Bool))(hlen:L.length<=100000)(hnd:(L.map (·.1)).Nodup):SC prog 233 [bG,.fn 149 [] [.ip [lS AV.str ak L]]] [] [] (λr S'=>∃out:List (List Nat),out.Perm (L.map (·.1))/\r=bZ 0 1 out.length/\S'=[eU out,.gone]):=by
 refine SC.sQ (n:=13) dr dd rfl rfl ii (W:=[]) rfl ii ?_;refine(oa)<|zA [(2,.ptr 0 0),(6,.fn 149 [] [.ip [lS AV.str ak L]])] [.cells [bG],.gone] zH<|(zB) ?_;refine aE.tJ (f1:=[(2,.ptr 0 0)]) dr i4 func149 i4 Ur ?_
 rintro N lc hid hn hps ha hb
 have hcd:sH lc:=by
  unfold sH;rw[dd,ha,hb];rfl
 have hsc:=Gz L lc hcd hn hps hlen hnd;refine⟨[3,0,1],_,_,_,_,hsc,?_,rfl,by decide,?_,?_⟩
 ·simp only[gD,cj,dJ,an,eK,aY,↓reduceIte,ad,af,ay,hid,List.map,d7,cons_append,nil_append]
  try rfl
 ·rintro(_ | _ | _ | i) so h
  ·cases h;exact⟨3,rfl,by rfl⟩
  ·cases h;exact⟨0,rfl,by rfl⟩
  ·cases h;exact⟨1,rfl,by rfl⟩
  ·cases h
 rintro r S' ⟨rfl,out,hp,rfl⟩
 have hbn:∀n:Nat,dz 3 (bZ 2 1 n)=true:=λn=>by
  unfold bZ;split
  ·exact gi rfl
  ·rfl
 have hrn3:∀(B n:Nat),pH (jP [3,0,1] B) (.cells [bZ 2 1 n])=.cells [bZ 1 1 n]:=λB n=>by
  show SO.cells [fh _ _]=_;rw[dD];rfl
 refine⟨by simp only[gO,B4,gD,cj,an,af,al,decide_true,↓gH,↓hbn];first | done | rfl,3,.ready,none,[(2,.ptr 0 0)],by rfl,by decide,by rfl,?_⟩
 have hS2:(dI (fW (fW [SO.cells [bG],SO.gone] (SO.mC N)) (SO.loop lc .ready none [(2,.ptr 0 0)])) [3,0,1] [2] [gO lc,.cells [bZ 2 1 out.length],eU out]).set 3 .gone=[.cells [bZ 1 1 out.length],eU out,.mC N,.gone]:=by
  simp only[dI,fW,ek,c9,fU,gA,jp,i7,List.map,aj,md,↓hrn3,↓eH];rfl
 rw[hS2];change aE _ _ _ ⟨[(2,.ptr 0 0)],13,[.cells [bZ 1 1 out.length],eU out,.mC N,.gone],[{ fn:=none,Ew:=N,args:=[],cap:=[] }]⟩ _;refine(zV) ?_;refine zA [(4,bZ 0 1 out.length)] [eU out,.mC N] (Fg.rn (f':=[(4,bZ 0 1 out.length)]) (n:=13) (S':=[eU out,.mC N]) [1,2] ii rfl (Mf (bq @dD @eH)) (Mg (bq @dD @eH))) ?_;refine aE.ret ?_
 (try simp only[eQ,cX,bU,bK])
 exact⟨rfl,[(4,bZ 0 1 out.length)],⟨rfl,trivial⟩,rfl,.inl ⟨rfl,1,rfl,⟨[bZ 0 1 out.length],by rfl,out,hp,rfl,rfl⟩,aS _,λi hi=>un hi (c5 _)⟩⟩
def rS(L:List (List Nat×Bool))(hlen:L.length<=100000)(hnd:(L.map (·.1)).Nodup):SC prog 148 [.fn 149 [] [.ip [lS AV.str ak L]]] [] [] (λr S'=>∃out:List (List Nat),out.Perm (L.map (·.1))/\r=bZ 0 1 out.length/\S'=[eU out,.gone]):=by
 refine LJ 5 Tryz.func148 ?_;refine(jt) ?_;refine aT.sc [] i4 rfl rfl i4 rfl zc (Dm L hlen hnd) (by simp only[gD,cj,an];first | done | rfl) rfl ii (λi so h=>by simp at h) ?_ ?_
 ·rintro r S' ⟨out,hp,rfl,rfl⟩;exact⟨fk 1 1 _,by simp only[B4,↓gH];first | done | rfl⟩
 ·rintro r S' ⟨out,hp,rfl,rfl⟩;have e1:fh (jP [] ([]:List SO).length) (bZ 0 1 out.length)=bZ 0 1 out.length:=dD _ 0 1 _
  have e2:dI [] [] [] [eU out,.gone]=[eU out,.gone]:=by
   simp only[dI,c9,fU,gA,jp,i7,List.map,↓eH];rfl
  rw[e1,e2]
  refine oA [(4,bZ 0 1 out.length)] [eU out,.gone] zH<|(zR)<|(zE) ?_;exact zP [.tmp 2] (hq:=by (try simp only[ew,bH]);first | done | (exact⟨out,hp,rfl,rfl⟩))
def D4(L:List (List Nat×Bool))(hlen:L.length<=100000)(hnd:(L.map (·.1)).Nodup)(hne:L≠[]):SC prog 64 [.fn 149 [] [.ip [lS AV.str ak L]]] [] [] (λr S'=>r=.buf 0 L.length 1 none/\S'=[.cells ((dX (L.map (·.1))).flatMap (aB ah))]):=by
 refine LJ 9 func64 ?_;refine(jt) ?_;refine aT.sc [] i4 rfl rfl i4 rfl zc (rS L hlen hnd) (by simp only[gD,cj,an];first | done | rfl) rfl ii (λi so h=>by simp at h) ?_ ?_
 ·rintro r S' ⟨out,hp,rfl,rfl⟩;exact⟨fk 1 1 _,by simp only[B4,↓gH];first | done | rfl⟩
 ·rintro r S' ⟨out,hp,rfl,rfl⟩;have e1:fh (jP [] ([]:List SO).length) (bZ 0 1 out.length)=bZ 0 1 out.length:=dD _ 0 1 _
  have e2:dI [] [] [] [eU out,.gone]=[eU out,.gone]:=by
   simp only[dI,c9,fU,gA,jp,i7,List.map,↓eH];rfl
  rw[e1,e2]
  have hol:out.length=L.length:=by rw[hp.length_eq,aj]
  have hon:out≠[]:=λe=>hne (t8 (by rw[<-hol,e];rfl));have hso:dX out=dX (L.map (·.1)):=sC hp;have hss:=An out i5 hon;rw[hso,hol] at hss;have hcs:∀(r:Nat->Nat) (q:List (List Nat)),mn r (q.flatMap (aB ah))=q.flatMap (aB ah):=λr q=>bn (aA (λ_=>rfl) q);have hcb:∀(B:Nat) (q:List (List Nat)),hY B (q.flatMap (aB ah))=true:=λB q=>bI (aA (λ_=>rfl) q);have hck:∀(o:Nat) (q:List (List Nat)),(q.flatMap (aB ah)).map (aY o)=q.flatMap (aB ah):=λo q=>bC (enc:=aB ah) (λ_=>rfl) o q;rw[fw hon,hol,ef (λh=>hne (t8 h))]
  refine oA [(5,.buf 0 L.length 1 none)] [.cells (out.flatMap (aB ah))] zH<|(zR)<|(zC) ?_;refine zS [0] (cG hcs hcb hck) hss ?_;refine(zR)<|(zV)<|(zE) ?_;exact zP [.tmp 2]
def A8:SC prog 64 [.fn 149 [] [.ip [lS AV.str ak []]]] [] [] (λr S'=>r=bG/\S'=[]):=by
 refine LJ 9 func64 ?_;refine(jt) ?_;refine aT.sc [] i4 rfl rfl i4 rfl zc (rS [] (aS _) a7) (by simp only[gD,cj,an];first | done | rfl) rfl ii (λi so h=>by simp at h) ?_ ?_
 ·rintro r S' ⟨out,hp,rfl,rfl⟩;exact⟨fk 1 1 _,by simp only[B4,↓gH];first | done | rfl⟩
 ·rintro r S' ⟨out,hp,rfl,rfl⟩;obtain rfl:out=[]:=Perm.eq_nil hp
  refine oA [(5,bG)] [] (bX (show fh (jP [] ([]:List SO).length) (bZ 0 1 ([]:List (List Nat)).length)=bG from rfl))<|(zR)<|(zC)<|(zK ur)<|(zR)<|(zV)<|(zE) ?_;exact zP [.tmp 2]
def xv{K U:Type}[DecidableEq K]{k:K}{v:U}:∀{m:List (K×U)},(cq k v m).length<=m.length+1
 | []=>by unfold cq;simp
 | a::m=>by
  unfold cq;split
  ·rw[jp,jp];omega
  ·have:=xv (k:=k) (v:=v) (m:=m);rw[jp,jp];omega
def dO(day:Int)(m:List (List Nat×Bool))(x:kI×Bool):List (List Nat×Bool):=if x.1.day<day then cq x.1.fC true m else m
def tx(day:Int):∀(q:List (kI×Bool)) (m:List (List Nat×Bool)),(m.map (·.1)).Nodup->((q.foldl (dO day) m).map (·.1)).Nodup/\∀x,x∈(q.foldl (dO day) m).map (·.1)↔x∈m.map (·.1)\/∃e∈q,e.1.day<day/\e.1.fC=x
 | [],m,h=>⟨h,λx=>by simp⟩
 | y::q,m,h=>by
  rw[b6];by_cases hd:y.1.day<day
  ·rw[show dO day m y=cq y.1.fC true m from ut hd];obtain⟨i1,i2⟩:=tx day q (cq y.1.fC true m) (tI h);refine⟨i1,λx=>?_⟩;rw[i2,On];constructor
   ·rintro((rfl | h) | ⟨e,he,h1,h2⟩)
    ·exact .inr ⟨y,bc,hd,rfl⟩
    ·exact .inl h
    ·exact .inr ⟨e,ax _ he,h1,h2⟩
   ·rintro(h | ⟨e,he,h1,h2⟩)
    ·exact .inl (.inr h)
    ·rcases t7 he with rfl | he
     ·exact .inl (.inl h2.symm)
     ·exact .inr ⟨e,he,h1,h2⟩
  ·rw[show dO day m y=m from v6 hd];obtain⟨i1,i2⟩:=tx day q m h;refine⟨i1,λx=>?_⟩;rw[i2];constructor
   ·rintro(h | ⟨e,he,h1,h2⟩)
    ·exact .inl h
    ·exact .inr ⟨e,ax _ he,h1,h2⟩
   ·rintro(h | ⟨e,he,h1,h2⟩)
    ·exact .inl h
    ·rcases t7 he with rfl | he
     ·exact un h1 hd
     ·exact .inr ⟨e,he,h1,h2⟩
def H4{ds:List dZ}{c:List aL}{l:List bu}{part:List Nat}{day:Int}{q:List (kI×Bool)}(hq:q.Perm (rN ds c l part day)):dX ((q.foldl (dO day) []).map (·.1))=kU ds c l part day:=by
 obtain⟨h1,h2⟩:=tx day q [] a7;obtain⟨_,p2⟩:=J7 ds c l part day;refine OL h1 λx=>?_;rw[h2];constructor
 ·rintro(h | ⟨e,he,h3,rfl⟩)
  ·cases h
  ·have:=(p2 e.1).1 (bk (hq.mem_iff.1 he));exact mem_map.2 ⟨(e.1.fC,e.1.day),mem_filter.2 ⟨this.2,wl h3⟩,rfl⟩
 ·intro h;obtain⟨e,he,rfl⟩:=mem_map.1 h;obtain⟨h3,h4⟩:=mem_filter.1 he;obtain⟨x,hx,e1⟩:=mem_map.1 ((p2 ⟨part,e.1,e.2⟩).2 ⟨rfl,h3⟩);exact .inr ⟨x,hq.mem_iff.2 hx,by rw[e1];exact ww h4,by rw[e1]⟩
def Ln(day:Int)(q:List (kI×Bool)):(q.foldl (dO day) []).length<=q.length:=by
 have key:∀(q:List (kI×Bool)) (m:List (List Nat×Bool)),(q.foldl (dO day) m).length<=m.length+q.length:=by
  intro q
  induction q with
  | nil=>intro m;exact ap _
  | cons y q ih=>
   intro m;rw[b6,jp]
   have h1:(dO day m y).length<=m.length+1:=by
    unfold dO;split
    ·exact xv
    ·omega
   have:=ih (dO day m y);omega
 have:=key q [];simpa using this
def QN(d:kI):uc (nM d)=.ag [ah d.part,ah d.fC,ab d.day]:=rfl
def Og(ds:List dZ)(c:List aL)(l:List bu)(part:List Nat)(day:Int):(rN ds c l part day).length<=ds.length:=by
 unfold rN;split
 ·exact aS _
 ·split
  ·exact aS _
  ·rename_i p _ _
   have key:∀(ds:List dZ) (m:List (kI×Bool)),(ds.foldl (ja l part day p.kind) m).length<=m.length+ds.length:=by
    intro q
    induction q with
    | nil=>intro m;exact ap _
    | cons y q ih=>
     intro m;rw[b6,jp]
     have h1:(ja l part day p.kind m y).length<=m.length+1:=by
      unfold ja;split
      ·exact xv
      ·omega
     have:=ih (ja l part day p.kind m y);omega
   have:=key ds [];simpa using this
def I0(ds:List dZ)(c:List aL)(l:List bu)(part:List Nat)(day:Int)(hd:∀d∈ds,Cf d)(hdl:ds.length<=100000)(hc:mr c)(hlen:l.length<20)(hl:∀e∈l,lK e):PC prog 22 [an 5 ds bj,.ag [an 3 c ao],an 14 l aq,ah part,ab day] (·=an 1 (kU ds c l part day) (aB ah)):=by
 have hp:=I2 ds c l part day hd i5 hc hlen hl;have hpl:=Og ds c l part day;have hpk:=(J7 ds c l part day).1;have hsr:=λq hq=>H4 (ds:=ds) (c:=c) (l:=l) (part:=part) (day:=day) (q:=q) hq;generalize rN ds c l part day=M at hp hpl hpk hsr
 refine pB 35 Tryz.func22 ?_;refine(zV) ?_;refine zZ ((0,an 5 ds bj)::(6,.ip [an 3 c ao])::(2,an 14 l aq)::(3,ah part)::[(4,ab day)]) 0 rfl (gu @an.eq_1)<|zA ((0,an 5 ds bj)::(6,.ip [an 3 c ao])::(2,an 14 l aq)::(3,ah part)::[(4,ab day)]) [] zH<|(jt)<|(zK hp (hfl:=.inr (bg.refl rfl))) ?_;refine aT.TW (ks:=M.map λe=>nM e.1) (vs:=M.map λe=>ak e.2) i4 rfl rfl i4 rfl (by simp only[aJ]) ?_
 intro bs c hbs;refine(zR) ?_
 (repeat refine aE.seq ?_)
 refine aE.block (aE.loop (λm st=>∃pos:List Nat,pos.Nodup/\(∀j∈pos,j<M.length)/\M.length-pos.length=m/\st=⟨[(4,ab day),(11,.map 0),(20,.ptr 1 0)],35,[bE AV.str ak ((bm M pos).foldl (dO day) []),.oT (M.map λe=>nM e.1) (M.map λe=>ak e.2) bs c pos],[]⟩) M.length (bX (show SO.map [] [] none=bE AV.str ak ((bm M []).foldl (dO day) []) from rfl)) ⟨[],a7,λj h=>(bw h).elim,rfl,rfl⟩ (by rintro m st ⟨_,_,_,_,rfl⟩;rfl) ?_);rintro m st ⟨pos,hpn,hpl2,rfl,rfl⟩;refine(zC) ?_;refine aT.TT i4 rfl rfl i4 rfl rfl (λj hj=>by rw[aj];exact hpl2 j hj) ?_ ?_;rotate_left
 ·intro j hj hjn;rw[aj] at hj;obtain⟨e,he⟩:∃e,M[j]?=some e:=⟨M[j],li hj⟩;obtain⟨q1,q2,q3⟩:=qA hpn hpl2 hj hjn
  have hsn:(bm M (pos++[j])).foldl (dO day) []=dO day ((bm M pos).foldl (dO day) []) e:=by rw[kP M pos he,b5];rfl
  rw[show ∀m,dO day m e=if e.1.day<day then cq e.1.fC true m else m from λ_=>rfl] at hsn;generalize (bm M pos).foldl (dO day) []=nm at hsn ⊢
  have hmeas:M.length-(pos++[j]).length<M.length-pos.length:=by rw[md];simp only[jp,i7];omega
  refine(cJ @qt)<|(gB)<|(zC) ?_;refine aT.TN (k:=nM e.1) (v:=ak e.2) i4 rfl rfl i4 rfl rfl (by rw[a6,he];rfl) (by rw[a6,he];rfl) ?_;refine(cJ (bq @QN @qt)) ?_
  by_cases hb:e.1.day<day
  ·rw[ut hb] at hsn
   refine(aw (wl hb))<|(zY)<|(zs) ?_;refine aE.r0 i4 (by simp only[dJ,cj,an,aJ,m8,m7,↓reduceIte,ad,af,am,ac,al,ar,az,bT,rA (l:=nm),qt];first | done | rfl) ?_;exact⟨M.length-(pos++[j]).length,_,hmeas,(bX hsn),pos++[j],q1,q2,rfl,rfl⟩
  ·rw[v6 hb] at hsn
   refine(aw (wd hb))<|(zN) ?_;exact⟨M.length-(pos++[j]).length,_,hmeas,(bX hsn),pos++[j],q1,q2,rfl,rfl⟩
 intro hall;have hperm:(bm M pos).Perm M:=mF hpn hpl2 λj hj=>hall j (by rw[aj];exact hj);have hkn:=(tx day (bm M pos) [] a7).1;have hkl:=Ln day (bm M pos)
 have hml:(bm M pos).length<=100000:=by rw[hperm.length_eq];omega
 have hso:=hsr _ hperm;rw[<-hso];generalize (bm M pos).foldl (dO day) []=nm at hkn hkl ⊢
 refine(cJ @qt)<|(gh) ?_
 (try simp only[eQ,cX,bU,bK,if_true])
 refine zZ [(11,lS AV.str ak nm)] 0 rfl ⟨.inr (l9 (λ_=>rfl) rfl),trivial⟩<|zA [(11,lS AV.str ak nm)] [] zH<|(zC)<|(zK (IT nm) (hfl:=.inr (bg.refl rfl))) ?_
 by_cases hn0:nm=[]
 ·subst hn0
  refine zS [] trivial A8 ?_;exact(zR)<|zo [.tmp 10] (r:=an 1 ([]:List (List Nat)) (aB ah)) (hw:=.nil _)
 ·have hss:=D4 nm i5 hkn hn0;have hcs:∀(r:Nat->Nat) (q:List (List Nat)),mn r (q.flatMap (aB ah))=q.flatMap (aB ah):=λr q=>bn (aA (λ_=>rfl) q);have hcb:∀(B:Nat) (q:List (List Nat)),hY B (q.flatMap (aB ah))=true:=λB q=>bI (aA (λ_=>rfl) q);have hck:∀(o:Nat) (q:List (List Nat)),(q.flatMap (aB ah)).map (aY o)=q.flatMap (aB ah):=λo q=>bC (enc:=aB ah) (λ_=>rfl) o q
  have hsl:(dX (nm.map (·.1))).length=nm.length:=by rw[(qE _).length_eq,aj]
  refine zS [] (cG hcs hcb hck) hss ?_;exact(zR)<|zo [.tmp 10] (r:=.sl nm.length 1 ((dX (nm.map (·.1))).flatMap (aB ah))) (hw:=.buf rfl (by rw[<-hsl,ej (enc:=aB ah) (e:=1) (λ_=>rfl)];exact bg.refl (aA (λ_=>rfl) _)) (by rw[aZ (enc:=aB ah) (e:=1) (λ_=>rfl),hsl];exact ap _)) (hq:=by rw[sB,hsl])
open Go.Ev Go.RowKit Go.Sort
def x8(x y:Int):Int:=if x<y then -1 else if y<x then 1 else 0
def jA(x y:ByteArray):Int:=if Op.bytesLess x.toList y.toList=true then -1 else if (x.toList==y.toList)=true then 0 else 1
def AM(x y z:Int):Int:=if x≠0 then x else if y≠0 then y else z
set_option maxRecDepth 100000 in
def Iy(x y:Int)(W:World):Calls prog 78 #[.int .i64 x,.int .i64 y] W λe w'=>e=.returned (.int .i64 (x8 x y))/\w'=W:=by
 unfold x8
 go_enter Tryz.func78,Tryz.ntmps78
 go_wp2
 all_goals (go_ret;exact⟨rfl,rfl⟩)
set_option maxRecDepth 100000 in
def IX(x:ByteArray)(W:World):Calls prog 159 #[.string x] W λe w'=>e=.returned (.bool false)/\w'=W:=by
 go_enter Tryz.func159,Tryz.ntmps159
 go_wp2
 go_ret
 exact⟨rfl,rfl⟩
set_option maxRecDepth 100000 in
def zU(x y:ByteArray)(W:World):Calls prog 79 #[.string x,.string y] W λe w'=>e=.returned (.int .i64 (jA x y))/\w'=W:=by
 have hn:=λz W'=>IX z W';cases h1:Op.bytesLess x.toList y.toList
 ·cases h2:(x.toList==y.toList)
  ·rw[show jA x y=1 by unfold jA;rw[h1,h2];rfl]
   go_enter d9,dt
   go_wp2_with (go_at_call 159;refine(hn _ _).mono ?_;rintro e w' ⟨rfl,rfl⟩)
   all_goals (go_ret;exact⟨rfl,rfl⟩)
  ·rw[show jA x y=0 by unfold jA;rw[h1,h2];rfl]
   go_enter d9,dt
   go_wp2_with (go_at_call 159;refine(hn _ _).mono ?_;rintro e w' ⟨rfl,rfl⟩)
   all_goals (go_ret;exact⟨rfl,rfl⟩)
 ·rw[show jA x y = -1 by unfold jA;rw[h1];rfl]
  go_enter d9,dt
  go_wp2_with (go_at_call 159;refine(hn _ _).mono ?_;rintro e w' ⟨rfl,rfl⟩)
  all_goals (go_ret;exact⟨rfl,rfl⟩)
set_option maxRecDepth 100000 in
def OU(x y z:Int)(W:World)(b c:Nat)(h0:W.cell? ⟨b,0,none⟩=some (.int .i64 x))(h1:W.cell? ⟨b,1,none⟩=some (.int .i64 y))(h2:W.cell? ⟨b,2,none⟩=some (.int .i64 z)):Calls prog 77 #[.slice (some ⟨b,0,none⟩) 3 c] W λe w'=>e=.returned (.int .i64 (AM x y z))/\w'=W:=by
 by_cases g1:x=0
 ·by_cases g2:y=0
  ·rw[show AM x y z=z by unfold AM;simp[g1,g2]];subst g1 g2;by_cases g3:z=0
   ·subst g3
    go_enter c3,cn
    go_wp2
    refine wp_loop_rounds 4 ?_;rw[rounds_succ]
    go_wp2
    rw[rounds_succ]
    go_wp2
    rw[rounds_succ]
    go_wp2
    rw[rounds_succ]
    go_wp2
    all_goals (go_ret;exact⟨rfl,rfl⟩)
   ·go_enter c3,cn
    go_wp2
    refine wp_loop_rounds 3 ?_;rw[rounds_succ]
    go_wp2
    rw[rounds_succ]
    go_wp2
    rw[rounds_succ]
    go_wp2
    all_goals (go_ret;exact⟨rfl,rfl⟩)
  ·rw[show AM x y z=y by unfold AM;simp[g1,g2]];subst g1
   go_enter c3,cn
   go_wp2
   refine wp_loop_rounds 2 ?_;rw[rounds_succ]
   go_wp2
   rw[rounds_succ]
   go_wp2
   all_goals (go_ret;exact⟨rfl,rfl⟩)
 ·rw[show AM x y z=x by unfold AM;simp[g1]]
  go_enter c3,cn
  go_wp2
  refine wp_loop_rounds 1 ?_;rw[rounds_succ]
  go_wp2
  all_goals (go_ret;exact⟨rfl,rfl⟩)
def Lv(W:World)(cs:Array Value)(t:TypeId)(i:Nat):(W.alloc (Obj.cells cs t)).cell? ⟨W.heap.size,i,none⟩=cs[i]?:=by
 unfold World.cell?;rw[show(W.alloc (Obj.cells cs t)).heap=W.heap.push (Obj.cells cs t) from rfl];simp only[ce];rw[ut trivial];rfl
def Mb(W:World)(cs ds:Array Value)(t:TypeId):(∀i,(World.drew ((W.alloc (Obj.cells cs t)).alloc (Obj.cells ds t))).cell? ⟨W.heap.size,i,none⟩=cs[i]?)/\(∀i,(World.drew ((W.alloc (Obj.cells cs t)).alloc (Obj.cells ds t))).cell? ⟨W.heap.size+1,i,none⟩=ds[i]?)/\World.drew ((W.alloc (Obj.cells cs t)).alloc (Obj.cells ds t))=grow (W.drewN 1) #[Obj.cells cs t,Obj.cells ds t]:=by
 have e:(World.drew ((W.alloc (Obj.cells cs t)).alloc (Obj.cells ds t))).heap=(W.heap.push (Obj.cells cs t)).push (Obj.cells ds t):=rfl;refine⟨λi=>?_,λi=>?_,?_⟩
 ·unfold World.cell?;rw[e];simp only[ce,dy];rw[v6 i5,ut trivial];rfl
 ·unfold World.cell?;rw[e];simp only[ce,dy];rw[ut trivial];rfl
 ·unfold grow World.drewN World.drew
  congr 1
set_option maxRecDepth 100000 in
def AT(x1 y1:Int)(x2 x3 y2 y3:ByteArray)(W:World):Calls prog 76 #[.agg #[.int .i64 x1,.string x2,.string x3],.agg #[.int .i64 y1,.string y2,.string y3]] W λe w'=>e=.returned (.int .i64 (AM (x8 x1 y1) (jA x2 y2) (jA x3 y3)))/\∃q os',w'=grow (W.drewN q) os':=by
 have hI:=λW'=>Iy x1 y1 W';have hS2:=λW'=>zU x2 y2 W';have hS3:=λW'=>zU x3 y3 W'
 go_enter func76,Tryz.ntmps76
 go_wp2
 refine wp_region_still_tail 15 zW zW ?_;change wpStill _ _ (World.drew ((W.alloc (Obj.cells #[Value.int .i64 x1,Value.string x2,Value.string x3] 65)).alloc (Obj.cells #[Value.int .i64 y1,Value.string y2,Value.string y3] 65))) (λa'=>wpList _ _ _ _ a' (World.drew ((W.alloc (Obj.cells #[Value.int .i64 x1,Value.string x2,Value.string x3] 65)).alloc (Obj.cells #[Value.int .i64 y1,Value.string y2,Value.string y3] 65)))) _ _;obtain⟨k1,k2,k3⟩:=Mb W #[Value.int .i64 x1,Value.string x2,Value.string x3] #[Value.int .i64 y1,Value.string y2,Value.string y3] 65;have a0:(World.drew ((W.alloc (Obj.cells #[Value.int .i64 x1,Value.string x2,Value.string x3] 65)).alloc (Obj.cells #[Value.int .i64 y1,Value.string y2,Value.string y3] 65))).cell? ⟨W.heap.size,0,none⟩=some (.int .i64 x1):=k1 0;have a1:(World.drew ((W.alloc (Obj.cells #[Value.int .i64 x1,Value.string x2,Value.string x3] 65)).alloc (Obj.cells #[Value.int .i64 y1,Value.string y2,Value.string y3] 65))).cell? ⟨W.heap.size,1,none⟩=some (.string x2):=k1 1;have a2:(World.drew ((W.alloc (Obj.cells #[Value.int .i64 x1,Value.string x2,Value.string x3] 65)).alloc (Obj.cells #[Value.int .i64 y1,Value.string y2,Value.string y3] 65))).cell? ⟨W.heap.size,2,none⟩=some (.string x3):=k1 2;have b0:(World.drew ((W.alloc (Obj.cells #[Value.int .i64 x1,Value.string x2,Value.string x3] 65)).alloc (Obj.cells #[Value.int .i64 y1,Value.string y2,Value.string y3] 65))).cell? ⟨W.heap.size+1,0,none⟩=some (.int .i64 y1):=k2 0;have b1:(World.drew ((W.alloc (Obj.cells #[Value.int .i64 x1,Value.string x2,Value.string x3] 65)).alloc (Obj.cells #[Value.int .i64 y1,Value.string y2,Value.string y3] 65))).cell? ⟨W.heap.size+1,1,none⟩=some (.string y2):=k2 1;have b2:(World.drew ((W.alloc (Obj.cells #[Value.int .i64 x1,Value.string x2,Value.string x3] 65)).alloc (Obj.cells #[Value.int .i64 y1,Value.string y2,Value.string y3] 65))).cell? ⟨W.heap.size+1,2,none⟩=some (.string y3):=k2 2;have HD:Hid ((World.drew ((W.alloc (Obj.cells #[Value.int .i64 x1,Value.string x2,Value.string x3] 65)).alloc (Obj.cells #[Value.int .i64 y1,Value.string y2,Value.string y3] 65)))=grow (W.drewN 1) #[Obj.cells #[Value.int .i64 x1,Value.string x2,Value.string x3] 65,Obj.cells #[Value.int .i64 y1,Value.string y2,Value.string y3] 65]):=k3;clear k1 k2 k3;generalize (World.drew ((W.alloc (Obj.cells #[Value.int .i64 x1,Value.string x2,Value.string x3] 65)).alloc (Obj.cells #[Value.int .i64 y1,Value.string y2,Value.string y3] 65)))=W2 at a0 a1 a2 b0 b1 b2 HD ⊢;simp only[List.take_succ_cons,take_zero,List.drop_succ_cons,d8]
 still_step
 still_step
 still_step
 still_step
 still_call (hI _)
 still_step
 still_step
 still_step
 still_step
 still_call (hS2 _)
 still_step
 still_step
 still_step
 still_step
 still_call (hS3 _)
 refine wpStill_nil ?_;have hal:∀(W2:World) (cs:Array Value) (t:TypeId) (i:Nat),(W2.alloc (Obj.cells cs t)).cell? ⟨W2.heap.size,i,none⟩=cs[i]?:=Lv
 go_wp2_with (go_at_call 77;refine(OU (x8 x1 y1) (jA x2 y2) (jA x3 y3) _ W2.heap.size 3 (hal _ _ _ 0) (hal _ _ _ 1) (hal _ _ _ 2)).mono ?_;rintro e w' ⟨rfl,rfl⟩)
 go_ret
 refine⟨rfl,1,#[Obj.cells #[Value.int .i64 x1,Value.string x2,Value.string x3] 65,Obj.cells #[Value.int .i64 y1,Value.string y2,Value.string y3] 65,Obj.cells #[Value.int .i64 (x8 x1 y1),Value.int .i64 (jA x2 y2),Value.int .i64 (jA x3 y3)] 3],?_⟩;rw[HD.out];rfl
open Go.Shelf
def pU:Go.Shelf.Ren:=⟨λ| 6=>156 | 15=>127 | 14=>238 | 28=>212 | 29=>213 | 20=>287 | 21=>288 | 22=>289 | 23=>290 | 24=>291 | 25=>292 | 26=>293 | 27=>294 | 46=>314 | 47=>270 | 48=>271 | 49=>315 | 50=>316 | 57=>326 | n=>n,λ| 22=>41 | 24=>65 | 25=>163 | 3=>3 | 39=>210 | 0=>0 | 53=>281 | 55=>283 | 4=>4 | 46=>274 | 45=>273 | 50=>122 | 5=>5 | 9=>9 | 66=>318 | 70=>322 | 76=>344 | 77=>345 | n=>n,λ| n=>n⟩
def wi:Go.Proofs.SlLaysF0.n6 prog pU:={
 mixed:=by kernel_rfl
 f6:=⟨Tryz.f156.name,by decide,func156.trans (rg some zW)⟩
 f14:=⟨Tryz.f238.name,by decide,func238.trans (rg some zW)⟩
 f15:=Tryz.func127.trans (rg some zW)
 f20:=⟨Tryz.f287.name,by decide,func287.trans (rg some zW)⟩
 f21:=⟨Tryz.f288.name,by decide,Tryz.func288.trans (rg some zW)⟩
 f22:=⟨Tryz.f289.name,by decide,Tryz.func289.trans (rg some zW)⟩
 f23:=⟨Tryz.f290.name,by decide,Tryz.func290.trans (rg some zW)⟩
 f24:=⟨Tryz.f291.name,by decide,Tryz.func291.trans (rg some zW)⟩
 f25:=⟨Tryz.f292.name,by decide,Tryz.func292.trans (rg some zW)⟩
 f26:=⟨Tryz.f293.name,by decide,Tryz.func293.trans (rg some zW)⟩
 f27:=⟨Tryz.f294.name,by decide,Tryz.func294.trans (rg some zW)⟩
 f28:=Tryz.func212.trans (rg some zW)
 f29:=Tryz.func213.trans (rg some zW)
 f46:=⟨Tryz.f314.name,by decide,Tryz.func314.trans (rg some zW)⟩
 f47:=Tryz.func270.trans (rg some zW)
 f48:=Tryz.func271.trans (rg some zW)
 f49:=⟨Tryz.f315.name,by decide,Tryz.func315.trans (rg some zW)⟩
 f50:=⟨Tryz.f316.name,by decide,Tryz.func316.trans (rg some zW)⟩
 f57:=⟨Tryz.f326.name,by decide,Tryz.func326.trans (rg some zW)⟩
 t0:=Tryz.underlying0
 a0:=Tryz.isAgg0
 z0:=Tryz.sizeOf0
 v0:=Tryz.zeroValue0
 t3:=Tryz.underlying3
 a3:=Tryz.isAgg3
 z3:=Tryz.sizeOf3
 v3:=Tryz.zeroValue3
 t4:=Tryz.underlying4
 a4:=Tryz.isAgg4
 z4:=Tryz.sizeOf4
 v4:=Tryz.zeroValue4
 t5:=Tryz.underlying5
 a5:=Tryz.isAgg5
 z5:=Tryz.sizeOf5
 v5:=Tryz.zeroValue5
 t9:=Tryz.underlying9
 a9:=Tryz.isAgg9
 z9:=Tryz.sizeOf9
 v9:=Tryz.zeroValue9
 t22:=Tryz.underlying41
 a22:=Tryz.isAgg41
 z22:=Tryz.sizeOf41
 v22:=Tryz.zeroValue41
 t25:=Tryz.underlying163
 a25:=Tryz.isAgg163
 z25:=Tryz.sizeOf163
 v25:=Tryz.zeroValue163
 t39:=Tryz.underlying210
 a39:=Tryz.isAgg210
 z39:=Tryz.sizeOf210
 v39:=Tryz.zeroValue210
 t45:=Tryz.underlying273
 a45:=Tryz.isAgg273
 z45:=Tryz.sizeOf273
 v45:=Tryz.zeroValue273
 t46:=Tryz.underlying274
 a46:=Tryz.isAgg274
 z46:=Tryz.sizeOf274
 v46:=Tryz.zeroValue274
 t50:=Tryz.underlying122
 a50:=Tryz.isAgg122
 z50:=Tryz.sizeOf122
 v50:=Tryz.zeroValue122
 t53:=Tryz.underlying281
 a53:=Tryz.isAgg281
 z53:=Tryz.sizeOf281
 v53:=Tryz.zeroValue281
 t55:=Tryz.underlying283
 a55:=Tryz.isAgg283
 z55:=Tryz.sizeOf283
 v55:=Tryz.zeroValue283
 t66:=Tryz.underlying318
 a66:=Tryz.isAgg318
 z66:=Tryz.sizeOf318
 v66:=Tryz.zeroValue318
 t70:=Tryz.underlying322
 a70:=Tryz.isAgg322
 z70:=Tryz.sizeOf322
 v70:=Tryz.zeroValue322
 t76:=Tryz.underlying344
 a76:=Tryz.isAgg344
 z76:=Tryz.sizeOf344
 v76:=Tryz.zeroValue344
 t77:=Tryz.underlying345
 a77:=Tryz.isAgg345
 z77:=Tryz.sizeOf345
 v77:=Tryz.zeroValue345 }
open Go.Ev Go.RowKit Go.Shelf Go.Lib Go.Sort
set_option maxRecDepth 100000 in
def IN(p:Option Addr)(cap:Nat)(fv:Value)(w:World):
 Calls prog 287 #[.slice p 0 cap,.int .i64 0,.int .i64 0,fv] w λe w'=>e=.returned (.tuple #[])/\w'=w:=by
 go_enter func287,Tryz.ntmps287
 go_wp2
 refine wp_loop_rounds 1 ?_;rw[rounds_succ]
 go_wp2
 go_end0
 exact⟨rfl,rfl⟩
set_option maxRecDepth 100000 in
def I1(p:Option Addr)(cap:Nat)(lim:Int)(fv:Value)(w:World):
 Calls prog 238 #[.slice p 0 cap,.int .i64 0,.int .i64 0,.int .i64 lim,fv] w λe w'=>e=.returned (.tuple #[])/\w'=w:=by
 have hi:=λW=>IN p cap fv W
 go_enter func238,Tryz.ntmps238
 go_wp2
 refine wp_loop_rounds 1 ?_;rw[rounds_succ]
 go_wp2_with (go_at_call 287;refine(hi _).mono ?_;rintro e w' ⟨rfl,rfl⟩)
 (try simp only[Exit.inBlock,Exit.then])
 refine bodyPost_ret (results_none rfl _ _ _) rfl ?_;exact⟨rfl,rfl⟩
set_option maxRecDepth 100000 in
def GN(p:Option Addr)(cap:Nat)(fv:Value)(w:World):
 Calls prog 156 #[.slice p 0 cap,fv] w λe w'=>e=.returned (.tuple #[])/\w'=w:=by
 have hp:=λlim W=>I1 p cap lim fv W
 have hl:∀W,Calls prog 127 #[.int .u64 0] W λe w'=>e=.returned (.int .i64 (Lib.bitLen 0:Nat))/\w'=W:=λW=>
  Any.bits_Len (SlLaysF0.n15.bits (P:=prog) (ρ:=pU) { wi with }) 0 W i5 i5
 go_enter func156,Tryz.ntmps156
 go_wp2_with (first | (go_at_call 127;refine(hl _).mono ?_;rintro e w' ⟨rfl,rfl⟩) | (go_at_call 238;refine(hp _ _).mono ?_;rintro e w' ⟨rfl,rfl⟩))
 go_end0
 exact⟨rfl,rfl⟩
abbrev TF:=Int×ByteArray×ByteArray
def lD(x:TF):List Value:=[.int .i64 x.1,.string x.2.1,.string x.2.2]
def iH(x:TF):aD:=⟨x.1,j7 x.2.1,j7 x.2.2⟩
def S4(x y:TF):Int:=AM (x8 x.1 y.1) (jA x.2.1 y.2.1) (jA x.2.2 y.2.2)
def aD.av(f:aD):List AV:=[.int .i64 f.kind,.str f.part,.str f.name]
def sR(x y:ByteArray):Op.bytesLess x.toList y.toList=fe (j7 x) (j7 y):=by
 unfold j7;simp only[ByteArray.toList_eq];exact(oD _ _).symm
def ED(x y:ByteArray):(x.toList==y.toList)=decide (j7 x=j7 y):=by
 unfold j7;simp only[ByteArray.toList_eq];by_cases h:x.data.toList=y.data.toList
 ·rw[h];simp
 ·have:¬x.data.toList.map (·.toNat)=y.data.toList.map (·.toNat):=λhe=>h (List.map_inj_right (λx y=>UInt8.toNat_inj.1) |>.1 he);have h2:¬x.data=y.data:=λe=>h (by rw[e]);simp[h2,this]
def CZ(x y:TF):ltOf S4 x y=vF (iH x) (iH y):=by
 have e1:jA x.2.1 y.2.1=if fe (iH x).part (iH y).part=true then -1 else if (iH x).part=(iH y).part then 0 else 1:=by
  unfold jA;rw[sR,ED];simp only[wp];rfl
 have e2:jA x.2.2 y.2.2=if fe (iH x).name (iH y).name=true then -1 else if (iH x).name=(iH y).name then 0 else 1:=by
  unfold jA;rw[sR,ED];simp only[wp];rfl
 unfold ltOf S4 vF;rw[e1,e2,show x.1=(iH x).kind from rfl,show y.1=(iH y).kind from rfl];generalize iH x=a;generalize iH y=b;unfold AM x8
 rcases ct a.kind b.kind with h | h | h
 ·simp[h]
 ·have h1:¬a.kind<b.kind:=by omega
  have h2:¬b.kind<a.kind:=by omega
  cases g1:fe a.part b.part
  ·by_cases g2:a.part=b.part
   ·cases g3:fe a.name b.name
    ·by_cases g4:a.name=b.name<;>simp[h,g2,g4,cS]
    ·simp[h,g2,cS,g3]
   ·simp[h,g1,g2]
  ·simp[h,g1]
 ·have h1:¬a.kind<b.kind:=by omega
  have h2:¬a.kind=b.kind:=by omega
  simp[h,h1,h2]
def Um:SWO (ltOf S4) where
 irrefl:=λx=>by rw[CZ];exact CX _
 trans:=λx y z h1 h2=>by rw[CZ] at *;exact oC h1 h2
 ntrans:=λx y z h1 h2=>by
  rw[CZ] at *;cases h:vF (iH x) (iH z)
  ·rfl
  ·rcases CY (iH x) (iH y) with g | g | g
   ·rw[g] at h1;cases h1
   ·rw[g,h2] at h;cases h
   ·have:=oC g h;rw[h2] at this;cases this
def AU(Ew off size:Nat)(w:World):CmpLays prog 76 #[] lD 3 S4 Ew off size w:=
 λ_ _ _ _ x y=>AT x.1 y.1 x.2.1 x.2.2 y.2.1 y.2.2 _
def Lw(x:TF):∀v∈lD x,v.oneCell'=true:=by
 intro v hv;simp[lD] at hv
 rcases hv with rfl | rfl | rfl<;>rfl
def Ti:Option Value->ByteArray
 | some (.string s)=>s
 | _=>ByteArray.empty
def Uf:Option Value->Int
 | some (.int _ n)=>n
 | _=>0
def F2(c:Array Value)(d i:Nat):TF:=(Uf c[d+i*3]?,Ti c[d+i*3+1]?,Ti c[d+i*3+2]?)
def LF{σ:Sg}{c:Array Value}{d:Nat}{ts:List aD}(hV:∀(i:Nat) (a:AV),(ts.map aD.av).flatten[i]?=some a->∃v,c[d+i]?=some v/\V σ a v){i:Nat}{t:aD}(ht:ts[i]?=some t):
 iH (F2 c d i)=t/\∀k,k<3->c[d+i*3+k]?=some (lD (F2 c d i))[k]!:=by
 have hw:∀r∈ts.map aD.av,r.length=3:=by intro r hr;obtain⟨t,_,rfl⟩:=mem_map.1 hr;rfl
 have hg:=(by rw[a6,ht];rfl:(ts.map aD.av)[i]?=some t.av);have h0:=pj hw hg (k:=0) i5;have h1:=pj hw hg (k:=1) i5;have h2:=pj hw hg (k:=2) i5;obtain⟨v0,g0,V0⟩:=hV _ _ (h0.trans (show t.av[0]?=some (.int .i64 t.kind) from rfl));obtain⟨v1,g1,V1⟩:=hV _ _ (h1.trans (show t.av[1]?=some (.str t.part) from rfl));obtain⟨v2,g2,V2⟩:=hV _ _ (h2.trans (show t.av[2]?=some (.str t.name) from rfl));rw[em] at g0;rw[<-Nat.add_assoc] at g1 g2;cases V0
 cases V1 with
 | @str _ s0 e0=>cases V2 with
  | @str _ s1 e1=>
   have hrd:F2 c d i=(t.kind,s0,s1):=by unfold F2;rw[g0,g1,g2];rfl
   rw[hrd];refine⟨?_,λk hk=>?_⟩
   ·unfold iH j7;simp only[e0,e1]
   ·match k,hk with
    | 0,_=>rw[em];exact g0
    | 1,_=>exact g1
    | 2,_=>exact g2
def GO(ts:List aD)(id bO:Nat)(h:Ev.H)(ho:h.aU.get id=some (.cells (ts.map aD.av).flatten bO))(hne:ts≠[])(hlen:ts.length<=1000000):
 dU prog (.func 156) [.slice (some (id,0)) ts.length 3 none,.fn (.func 76) [] []] h (λr h'=>r=.cm []/\∃ts':List aD,ts'.Perm ts/\(ts'.Pairwise λa b=>vF b a=false)/\h.store id 0 (ts'.map aD.av).flatten=some h'):=by
 intro σ w args' hv hr;obtain⟨x,y,rfl,hx,hy⟩:=Et hv
 cases hy with
 | @fn _ _ _ fs' cs' hfy k1 k2 k3 k4=>
 have hfs:fs'=#[]:=ca (by rw[<-k1];rfl);have hcs:cs'=#[]:=ca (by rw[<-k3];rfl);subst hfs;subst hcs
 have hw0:∀r∈ts.map aD.av,r.length=3:=by intro r hr;obtain⟨t,_,rfl⟩:=mem_map.1 hr;rfl
 rw[dV dr func156 i4]
 have hpos:0<ts.length:=by
  cases ts with
  | nil=>exact un rfl hne
  | cons=>exact Nat.succ_pos _
 cases hx with
 | @slice _ _ _ _ _ a p c hs hl hrr hcc ha=>
 have ha:a=⟨p.b,p.d+0,none⟩:=ha.resolve_right i5;subst ha;obtain⟨q,carr,et,hq,hb,hsz,hlen',hVc⟩:=hr.cells ho;rw[hs] at hq;cases hq
 have hfl:(ts.map aD.av).flatten.length=ts.length*3:=by
  have:=jE (s:=3) hw0;rw[aj] at this;exact this
 have hpl:=hr.lt ho hs
 let d:Array TF:=Array.ofFn (n:=ts.length) λi=>F2 carr p.d i.1
 have hdsz:d.size=ts.length:=by simp[d]
 have hdi:∀i,i<ts.length->d[i]! = F2 carr p.d i:=λi hi=>by
  rw[getElem!_pos d i (by rw[hdsz];exact hi)];simp[d]
 have hspec:∀i,i<ts.length->ts[i]?=some (iH (F2 carr p.d i))/\∀k,k<3->carr[p.d+i*3+k]?=some (lD (F2 carr p.d i))[k]!:=λi hi=>
  have g:=LF hVc (li hi)
  ⟨by rw[li hi,g.1],g.2⟩
 have hH:HoldsK lD 3 w p.b (p.d+0) d:=by
  intro j hj;rw[size_flatK,hdsz] at hj
  have hi:j/3<ts.length:=by omega
  have hk:j%3<3:=by omega
  rw[get_flatK _ _ _ _ (by rw[hdsz];exact hj),hdi _ hi];have:=(hspec _ hi).2 _ hk;refine⟨?_,uS hb⟩;rw[cell_of hb,show p.d+0+j=p.d+j/3*3+j%3 by omega];exact this
 have hmain:=AnyQ.slices_SortFunc wi 3 Tryz.isAgg65 Tryz.sizeOf65 lD (λ_=>rfl) Lw S4 Um 76 #[] p.b (p.d+0) c d w (enters_of func76 zW rfl)
  (AU p.b (p.d+0) d.size w) hH hpl (by rw[hdsz];omega)
 rw[hdsz] at hmain;change Calls prog 156 _ _ _ at hmain;refine Calls.mono hmain ?_;rintro e w' ⟨rfl,d',n,os,⟨hp1,_,hp3⟩,hsorted,rfl⟩;rw[hdsz] at hp1
 have hdl:d.toList.map iH=ts:=by
  apply List.ext_getElem?;intro i;by_cases hi:i<ts.length
  ·rw[a6,cl,b7 (by rw[hdsz];exact hi),m7,(hspec i hi).1]
   congr 2
   have:=hdi i hi;rw[getElem!_pos d i (by rw[hdsz];exact hi)] at this;exact this
  ·rw[ci (by simp[hdsz];omega),ci i5]
 have hex:∀a:Array TF,a.size=ts.length->(a.extract 0 ts.length).toList=a.toList:=λa ha=>by
  rw[Array.toList_extract,List.extract_eq_take_drop,d8,Nat.sub_zero,b9 (by simp[ha])]
 rw[hex _ hp1,hex _ hdsz] at hp3
 have hperm:(d'.toList.map iH).Perm ts:=by rw[<-hdl];exact hp3.map _
 have hsx:(d'.toList.map iH).Pairwise λa b=>vF b a=false:=by
  rw[List.pairwise_iff_getElem];intro i j hi hj hij;rw[aj,co] at hi hj;have:=hsorted i j (aS _) hij i5;rw[getElem!_pos d' j hj,getElem!_pos d' i hi,CZ] at this;simp only[List.getElem_map,Array.getElem_toList];exact this
 have hlen2:(d'.toList.map iH).length=ts.length:=by rw[aj,co,hp1]
 have hw3:∀r∈(d'.toList.map iH).map aD.av,r.length=3:=by intro r hr;obtain⟨t,_,rfl⟩:=mem_map.1 hr;rfl
 have hb1:(putRowK lD 3 (Sort.ahead w n) p.b (p.d+0) d').heap[p.b]?=some (.cells (putCells _root_.id (p.d+0) (flatK lD 3 d') carr) et (0,0)):=by
  unfold putRowK putRow mapBlock;simp only[ck,if_true];rw[show(Sort.ahead w n).heap[p.b]?=some (.cells carr et (0,0)) from hb];rfl
 have hoth:∀b,b≠p.b->(putRowK lD 3 (Sort.ahead w n) p.b (p.d+0) d').heap[b]?=w.heap[b]?:=λb hbb=>by
  unfold putRowK putRow mapBlock;simp only[ck];rw[v6 (λe=>hbb e.symm)];rfl
 have hVn:∀(i:Nat) (a:AV),((d'.toList.map iH).map aD.av).flatten[i]?=some a->∃v,(putCells _root_.id (p.d+0) (flatK lD 3 d') carr)[p.d+i]?=some v/\V σ a v:=by
  intro i a hia
  have hil:i<ts.length*3:=by
   have:=NB hia;rw[jE hw3,aj,hlen2] at this;exact this
  have hj:i/3<d'.size:=by omega
  have hrow:((d'.toList.map iH).map aD.av)[i/3]?=some (iH d'[i/3]!).av:=by
   rw[a6,a6,cl,b7 hj,getElem!_pos d' _ hj];rfl
  have hat:=pj hw3 hrow (k:=i%3) i5;rw[show i/3*3+i%3=i by omega,hia] at hat
  have hcl:p.d+i<carr.size:=by omega
  have hput:(putCells _root_.id (p.d+0) (flatK lD 3 d') carr)[p.d+i]?=some ((lD d'[i/3]!)[i%3]!):=by
   unfold putCells;rw[Array.getElem?_mapIdx,b7 hcl,m7,ut ⟨by omega,by rw[size_flatK];omega⟩];rw[show p.d+i-(p.d+0)=i by omega,get_flatK _ _ _ _ i5];rfl
  refine⟨_,hput,?_⟩;generalize d'[i/3]! = x at hat
  have h3:i%3=0\/i%3=1\/i%3=2:=by omega
  rcases h3 with e | e | e<;>rw[e] at hat ⊢
  ·cases hat;exact .int _ _
  ·cases hat;exact .str rfl
  ·cases hat;exact .str rfl
 obtain⟨r1,r2⟩:=hr.rewrite ho hs (cs':=((d'.toList.map iH).map aD.av).flatten) (by rw[jE hw3,aj,hlen2,hfl]) hb hb1 (by unfold putCells;rw[Array.size_mapIdx]) hVn hoth (by unfold putRowK putRow mapBlock;simp[Sort.ahead]) rfl rfl rfl
 have hbel:Below (putRowK lD 3 (Sort.ahead w n) p.b (p.d+0) d').heap.size (putRowK lD 3 (Sort.ahead w n) p.b (p.d+0) d') (grow (putRowK lD 3 (Sort.ahead w n) p.b (p.d+0) d') os):=
  ⟨rfl,rfl,rfl,by rw[size_grow];omega,λk hk=>by unfold grow;simp only;rw[Array.getElem?_append_left hk]⟩
 have hkeep:=sa r1 hbel;refine⟨_,rfl,.cm [],_,⟨rfl,d'.toList.map iH,hperm,hsx,?_⟩,σ,V.lH,hkeep.1,r2.trans hkeep.2⟩
 have hfl2:((d'.toList.map iH).map aD.av).flatten.length=(ts.map aD.av).flatten.length:=by rw[jE hw3,aj,hlen2,hfl]
 have hone:((d'.toList.map iH).map aD.av).flatten.all jS=true:=by
  rw[List.all_eq_true];intro x hx;rw[List.mem_flatten] at hx;obtain⟨r,hr1,hr2⟩:=hx;obtain⟨k,_,rfl⟩:=mem_map.1 hr1;unfold aD.av at hr2;simp only[cb,bw,or_false] at hr2
  rcases hr2 with rfl | rfl | rfl<;>rfl
 unfold H.store;rw[ho];simp only;rw[hfl2,Nat.zero_add,eY (ap _),hone,Bool.and_self,ar,take_zero,nil_append,List.drop_of_length_le (ap _),b4]
def CJ:∀l:List aD,iP (l.flatMap aF)=some (l.map aD.av).flatten
 | []=>rfl
 | a::l=>by
  show iP (ab a.kind::ah a.part::ah a.name::l.flatMap aF)=_;rw[iP,iP,iP,CJ l];rfl
def J3:∀l:List aD,(l.flatMap aF).all e9=true
 | []=>rfl
 | a::l=>by rw[c2,List.all_append,J3 l];rfl
def vO{l ks:List aD}(hp:ks.Perm l)(hn:l.Nodup)(hs:ks.Pairwise λa b=>vF b a=false):ks=gU l:=by
 have h1:=ru hn;have hk:ks.Nodup:=hp.nodup_iff.2 hn
 have h2:ks.Pairwise λa b=>vF a b=true:=by
  refine List.Pairwise.imp₂ ?_ hs hk;intro a b h e
  rcases CY a b with k | k | k
  ·exact k
  ·exact un k e
  ·rw[h] at k;cases k
 exact Perm.eq_of_pairwise (λa b _ _ h3 h4=>by have:=oC h3 h4;rw[CX] at this;cases this) h2 h1 (hp.trans (fJ l).symm)
def ia(f:aD):(aF f).length=3:=rfl
def db(f:aD):bW (aF f)=true:=rfl
def GQ(l:List aD)(hlen:l.length<=1000000)(hne:l≠[])(hn:l.Nodup):SC prog 156 [.buf 0 l.length 3 none,.fn 76 [] []] [.cells (l.flatMap aF)] [] (λr S'=>r=.cm []/\S'=[.cells ((gU l).flatMap aF)]):=by
 refine SC.row (by rw[aZ ia,aZ ia,(fJ l).length_eq]) (λθ ρ xs hx=>ma hx (J3 _)) ?_;intro E θ ρ h avs asx bO hl hR hA ho hV _;have has:=oi hV (CJ l);subst has;rw[aK] at hA;obtain⟨a,r,rfl,hA1,hA⟩:=hA;rw[aK] at hA;obtain⟨b,r,rfl,hA2,hA⟩:=hA;rw[bf] at hA;subst hA;rw[VS] at hA1;rw[VS] at hA2;subst hA1;obtain⟨xs,ys,rfl,hxs,hys⟩:=hA2;rw[bf] at hxs;subst hxs;rw[bf] at hys;subst hys;refine(GO l _ _ h ho hne hlen).mono ?_;rintro v h' ⟨rfl,ts',hp,hs,hst⟩;have:=vO hp hn hs;subst this;refine⟨by rw[VS];exact⟨[],rfl,by rw[bf]⟩,_,?_,hst⟩;exact tl (CJ _)
def D3(h:Ev.H):dU prog (.func 156) [.slice none 0 0 (some 0),.fn (.func 76) [] []] h (λr h'=>r=.cm []/\h'=h):=by
 intro σ w args' hv hr;obtain⟨x,y,rfl,hx,hy⟩:=Et hv;rw[dV dr func156 i4]
 cases hx with
 | gT hl=>
  refine Calls.mono (GN _ _ y w) ?_;rintro e w' ⟨rfl,rfl⟩;exact⟨_,rfl,.cm [],h,⟨rfl,rfl⟩,σ,V.lH,hr,Ext.refl _ _ _⟩
def GP:PC prog 156 [bG,.fn 76 [] []] (·=.a (.cm [])):=by
 intro ρ h avs _ hA;rw[dL] at hA;obtain⟨a,r,rfl,hA1,hA⟩:=hA;rw[dL] at hA;obtain⟨b,r,rfl,hA2,hA⟩:=hA;rw[eP] at hA;subst hA;rw[GS] at hA1;subst hA1;rw[GS] at hA2;obtain⟨xs,ys,rfl,hxs,hys⟩:=hA2;rw[eP] at hxs;subst hxs;rw[eP] at hys;subst hys;refine(D3 h).mono ?_;rintro v h' ⟨rfl,rfl⟩;exact⟨_,ρ,rfl,.refl _ _,λid ob hi=>.inl hi,by rw[GS]⟩
def cR(f:aD):AV:=.agg f.av
def aD.eq(a b:aD):fN eC a.av b.av=decide (a=b):=by
 obtain⟨a1,a2,a3⟩:=a;obtain⟨b1,b2,b3⟩:=b;simp only[aD.av,fN,eC,AG,sd,j9,cd,c0,aD.mk.injEq,dv]
def Gy:Keys prog 65 cR:=
 uY (ks:=[.i .i64,.s,.s]) zW (by simp only[aJ,m7]) (λ_=>rfl) aD.eq λ_=>rfl
def I3{S:List SO}{o:Nat}{l:List (aD×Bool)}(n:Int)(a b:List Nat)(u:Bool)(hS:S[o]?=some (bE cR ak l)):iq prog S 99 (.map o) (.ag [ab n,ah a,ah b]) (.a (.bool u))=some (S.set o (bE cR ak (cq (⟨n,a,b⟩:aD) u l))):=
 Ig (uv:=ak) (k:=(⟨n,a,b⟩:aD)) (kt:=65) (et:=4) (by simp only[aJ]) Gy hS rfl u
def bl{n:Nat}{l:List (aD×Bool)}:cE n (bE cR ak l)=bE cR ak l:=mh λ_=>lY _
def QO(f:aD):uc (cR f)=.ag [ab f.kind,ah f.part,ah f.name]:=rfl
def jv(l:List aD):SO:=if l=[] then .gone else .cells (l.flatMap aF)
def Ic{l:List aD}(h:¬l=[]):jv l=.cells (l.flatMap aF):=v6 h
def FQ:jv []=.gone:=rfl
def tP(r:Nat->Nat)(l:List aD):pH r (jv l)=jv l:=by
 unfold jv;split
 ·rfl
 ·rw[Kh];congr 1;exact bn (aA db l)
def re(o:Nat)(l:List aD):cE o (jv l)=jv l:=by
 unfold jv;split
 ·rfl
 ·rw[cE];congr 1;exact bR (aA db l)
def sP(B:Nat)(l:List aD):my B (jv l)=true:=by
 unfold jv;split
 ·rfl
 ·rw[my];exact bI (aA db l)
def IU(L:List (aD×Bool)):PC prog 75 [lS cR ak L] (·=.fn 157 [] [.ip [lS cR ak L]]):=by
 refine pB 4 Tryz.func75 ?_;refine(zV) ?_;refine zZ [(1,.ip [lS cR ak L])] 0 rfl (gu @an.eq_1) ?_
 (try change aE _ _ _ _ _)
 exact(zV)<|zo [.tmp 2]
def gP(lc:jy):SO:=.loop lc .ready none [(2,.ptr 1 0)]
def yE(o:Nat)(lc:jy)(h:¬1=o):cE o (gP lc)=gP lc:=by
 simp[gP,cE,eK,aY,Ev.names,h]
def sI(lc:jy):Prop:=(prog.funcs[(237:Nat)]?.bind λfn=>fn.body.bind uO)=some (lc.a,lc.b)
def GA(L:List (aD×Bool))(lc:jy)(hcd:sI lc)(hln:lc.n=13)(hlp:lc.ps=#[7])(hlen:L.length<=100000)(hnd:(L.map (·.1)).Nodup):
 SC prog 157 [.a (.fn (.yield lc.id) [] []),.ip [lS cR ak L]] [gP lc,.cells [bG],.gone] [2] (λr S'=>r=.cm []/\∃out:List aD,out.Perm (L.map (·.1))/\S'=[gP lc,.cells [bZ 2 3 out.length],jv out]):=by
 refine TZ 14 func157 ?_;have hk3:=yE 3 lc ii;have hk4:=yE 4 lc ii;have hn4:=λn=>cu (p:=4) (o:=2) (e:=3) (n:=n) ii;refine(zC) ?_;refine aT.TW (ks:=L.map λe=>cR e.1) (vs:=L.map λe=>ak e.2) i4 rfl rfl i4 rfl (by simp only[aJ]) ?_;intro bs c hbs;refine aT.r0 i4 (by simp only[dJ,cj,an,aJ,m8,m7,↓reduceIte,ad,af,am,ac,al,ar,az,bT,↓hk3];first | done | rfl) ?_
 (repeat refine aE.seq ?_)
 refine aE.block (aE.loop (λm st=>∃pos:List Nat,pos.Nodup/\(∀j∈pos,j<L.length)/\L.length-pos.length=m/\st=⟨[(0,.a (.fn (.yield lc.id) [] [])),(5,.ptr 3 0),(1000000,.ptr 0 0),(1000001,.ptr 1 0)],14,[gP lc,.cells [bZ 2 3 (bm L pos).length],jv ((bm L pos).map (·.1)),.oT (L.map λe=>cR e.1) (L.map λe=>ak e.2) bs c pos],[]⟩) L.length (bX (xX @bm.eq_1 @List.filterMap_nil.{0,0} @map_nil.{0,0} @i7.{0} @ly @FQ)) ⟨[],a7,λj hj=>by simp at hj,rfl,rfl⟩ (by rintro m st ⟨pos,_,_,_,rfl⟩;rfl) ?_);rintro m st ⟨pos,hpn,hpl,rfl,rfl⟩;refine aE.post ?_;refine(zC) ?_;refine aT.TT i4 rfl rfl i4 rfl rfl (λj hj=>by rw[aj];exact hpl j hj) ?_ ?_
 ·intro hall
  refine(zR)<|(gh) ?_;refine⟨⟨[(1000000,.ptr 0 0),(1000001,.ptr 1 0)],14,[gP lc,.cells [bZ 2 3 (bm L pos).length],jv ((bm L pos).map (·.1))],[]⟩,zH,?_⟩
  simp only[eQ,cX,bU,bK,if_true];exact zP [] (hq:=by (try simp only[ew,bH]);first | done | (exact⟨trivial,(bm L pos).map (·.1),(mF hpn hpl (λj hj=>hall j (by rw[aj];exact hj))).map _,by rw[aj]⟩))
 ·intro j hj hjn;rw[aj] at hj;obtain⟨e,he⟩:∃e,L[j]?=some e:=⟨L[j],li hj⟩;obtain⟨q1,q2,q3⟩:=qA hpn hpl hj hjn;have hsn:=kP L pos he
  refine(zR)<|(gB)<|(zC) ?_;refine aT.TN (k:=cR e.1) (v:=ak e.2) i4 rfl rfl i4 rfl rfl (by rw[a6,he];rfl) (by rw[a6,he];rfl) ?_;refine aT.r0 i4 (by simp only[dJ,cj,an,aJ,m8,m7,↓reduceIte,ad,af,am,ac,al,ar,az,bT,QO,↓hk4,hn4,re];first | done | rfl) ?_;refine(fb @aF.eq_1) ?_;refine oA [(10,.a (.fn (.yield lc.id) [] [])),(11,.ag (aF e.1)),(0,.a (.fn (.yield lc.id) [] [])),(5,.ptr 3 0),(1000000,.ptr 0 0),(1000001,.ptr 1 0)] [gP lc,.cells [bZ 2 3 (bm L pos).length],jv ((bm L pos).map (·.1)),.oT (L.map λe=>cR e.1) (L.map λe=>ak e.2) bs c (pos++[j])] (Fg.less (by (simp only[dJ,cj,fH,↓reduceIte,ad,aF,↓hk4,hn4,re])<;>(repeat' apply be)<;>first | rfl | trivial) (by (simp only[dJ,cj,or_true,true_or,aF,↓hk4,hn4,re])<;>(repeat' apply be)<;>first | exact .inr rfl | exact .inl rfl | trivial)) ?_;refine aT.y (vs:=[.ag (aF e.1)]) (oo:=0) i4 rfl rfl i4 rfl rfl rfl i4 rfl (by rw[hlp];rfl) (by rw[hln];rfl) (by rw[hln];decide) (by rw[hlp,hln];rfl) λro'=>?_
  have hcd2:=hcd;unfold sI at hcd2;rw[dl] at hcd2;have hcd3:=Option.some.inj (hcd2.symm.trans i4);obtain⟨ha,hbb⟩:=Prod.mk.inj hcd3;rw[ha,hlp,hln];have hhl:(bm L pos).length=((bm L pos).map (·.1)).length:=(aj _).symm;rw[hhl]
  have hol:((bm L pos).map (·.1)).length<=100000:=by rw[<-hhl];exact a8 (b8 _ _) i5
  generalize hout:(bm L pos).map (·.1)=out at hol;change aE _ _ _ ⟨[(7,.ag (aF e.1)),(2,.ptr 1 0),(20000010,.a (.fn (.yield lc.id) [] [])),(20000011,.ag (aF e.1)),(20000000,.a (.fn (.yield lc.id) [] [])),(20000005,.ptr 3 0),(21000000,.ptr 0 0),(21000001,.ptr 1 0)],13,[gP lc,.cells [bZ 2 3 out.length],jv out,.oT (L.map λe=>cR e.1) (L.map λe=>ak e.2) bs c (pos++[j])],[]⟩ _;refine(zs) ?_;refine aE.r0 i4 (by simp only[dJ,cj,an,aJ,m8,m7,↓reduceIte,ad,af,am,ac,al,ar,az,bT,aF,↓hk4,hn4,re];first | done | rfl) ?_;refine⟨rfl,0,none,[(2,.ptr 1 0)],rfl,?_⟩;rw[hbb];refine(zB) ?_;change aE _ _ _ ⟨_,13,[.loop lc .busy none [(2,.ptr 1 0)],.cells [bZ 2 3 out.length],jv out,.oT (L.map λe=>cR e.1) (L.map λe=>ak e.2) bs c (pos++[j]),.cells [ab e.1.kind,ah e.1.part,ah e.1.name]],[]⟩ _;by_cases ho:out=[]
  ·have hE1:bZ 2 3 (bm L (pos++[j])).length=.buf 2 1 3 none:=by rw[hsn,md,hhl,hout,ho];rfl
   have hE2:jv ((bm L (pos++[j])).map (·.1))=.cells [ab e.1.kind,ah e.1.part,ah e.1.name]:=by rw[hsn,bh,hout,ho];rfl
   rw[ho,FQ,show bZ 2 3 ([]:List aD).length=bG from rfl];refine(zV) ?_;refine⟨rfl,0,.busy,none,[(2,.ptr 1 0)],rfl,?_⟩;simp only[yb,laid,ac,ay,↓reduceIte]
   refine oA [(12,ak true),(0,.a (.fn (.yield lc.id) [] [])),(5,.ptr 3 0),(1000000,.ptr 0 0),(1000001,.ptr 1 0)] [gP lc,.cells [.buf 2 1 3 none],.cells [ab e.1.kind,ah e.1.part,ah e.1.name],.oT (L.map λe=>cR e.1) (L.map λe=>ak e.2) bs c (pos++[j])] (Fg.rn (f':=[(12,ak true),(0,.a (.fn (.yield lc.id) [] [])),(5,.ptr 3 0),(1000000,.ptr 0 0),(1000001,.ptr 1 0)]) (n:=14) (S':=[gP lc,.cells [.buf 2 1 3 none],.cells [ab e.1.kind,ah e.1.part,ah e.1.name],.oT (L.map λe=>cR e.1) (L.map λe=>ak e.2) bs c (pos++[j])]) [0,1,6,3] ii rfl (Mf (lM @gP.eq_1 @Ax.eq_1 @Aw.eq_1 @yd.eq_1 @yb.eq_1)) (Mg (lM @gP.eq_1 @Ax.eq_1 @Aw.eq_1 @yd.eq_1 @yb.eq_1)))<|(zR)<|(zN) ?_;exact⟨⟨[(0,.a (.fn (.yield lc.id) [] [])),(5,.ptr 3 0),(1000000,.ptr 0 0),(1000001,.ptr 1 0)],14,[gP lc,.cells [.buf 2 1 3 none],.cells [ab e.1.kind,ah e.1.part,ah e.1.name],.oT (L.map λe=>cR e.1) (L.map λe=>ak e.2) bs c (pos++[j])],[]⟩,(bX @gP.eq_1),L.length-(pos++[j]).length,_,by rw[md];simp only[jp,i7];omega,(bX (cG @gP.eq_1 hE1 hE2)),pos++[j],q1,q2,rfl,rfl⟩
  ·have hk1:¬out.length=0:=λh=>ho (t8 h)
   have hE1:bZ 2 3 (bm L (pos++[j])).length=.buf 2 (out.length+1) 3 none:=by rw[hsn,md,hhl,hout];exact ef gt
   have hE2:jv ((bm L (pos++[j])).map (·.1))=.cells ((out++[e.1]).flatMap aF):=by rw[hsn,bh,hout];exact Ic gt
   have hcl3:=aZ ia out;have hkc3:=λo=>bC db o out;have happ:=mb ia db 2 out e.1;rw[show aF e.1=[ab e.1.kind,ah e.1.part,ah e.1.name] from rfl] at happ;rw[Ic ho,ef hk1];refine(aw (lM hkc3 hcl3 (show out.length<=1000000 by omega) @ap happ)) ?_;refine⟨rfl,0,.busy,none,[(2,.ptr 1 0)],rfl,?_⟩;simp only[yb,laid,ac,ay,↓reduceIte]
   refine oA [(12,ak true),(0,.a (.fn (.yield lc.id) [] [])),(5,.ptr 3 0),(1000000,.ptr 0 0),(1000001,.ptr 1 0)] [gP lc,.cells [.buf 2 (out.length+1) 3 none],.cells ((out++[e.1]).flatMap aF),.oT (L.map λe=>cR e.1) (L.map λe=>ak e.2) bs c (pos++[j])] (bX (lM @gP.eq_1 @yb.eq_1 @Ax.eq_1 @Aw.eq_1 @yd.eq_1))<|(zR)<|(zN) ?_;exact⟨⟨[(0,.a (.fn (.yield lc.id) [] [])),(5,.ptr 3 0),(1000000,.ptr 0 0),(1000001,.ptr 1 0)],14,[gP lc,.cells [.buf 2 (out.length+1) 3 none],.cells ((out++[e.1]).flatMap aF),.oT (L.map λe=>cR e.1) (L.map λe=>ak e.2) bs c (pos++[j])],[]⟩,(bX @gP.eq_1),L.length-(pos++[j]).length,_,by rw[md];simp only[jp,i7];omega,(bX (cG @gP.eq_1 hE1 hE2)),pos++[j],q1,q2,rfl,rfl⟩
def Dn(L:List (aD×Bool))(hlen:L.length<=100000)(hnd:(L.map (·.1)).Nodup):SC prog 237 [bG,.fn 157 [] [.ip [lS cR ak L]]] [] [] (λr S'=>∃out:List aD,out.Perm (L.map (·.1))/\r=bZ 0 3 out.length/\S'=[jv out,.gone]):=by
 refine SC.sQ (n:=13) dr dl rfl rfl ii (W:=[]) rfl ii ?_;refine(oa)<|zA [(2,.ptr 0 0),(6,.fn 157 [] [.ip [lS cR ak L]])] [.cells [bG],.gone] zH<|(zB) ?_;refine aE.tJ (f1:=[(2,.ptr 0 0)]) dr i4 func157 i4 Ur ?_
 rintro N lc hid hn hps ha hb
 have hcd:sI lc:=by
  unfold sI;rw[dl,ha,hb];rfl
 have hsc:=GA L lc hcd hn hps hlen hnd;refine⟨[3,0,1],_,_,_,_,hsc,?_,rfl,by decide,?_,?_⟩
 ·simp only[gD,cj,dJ,an,eK,aY,↓reduceIte,ad,af,ay,hid,List.map,d7,cons_append,nil_append]
  try rfl
 ·rintro(_ | _ | _ | i) so h
  ·cases h;exact⟨3,rfl,by rfl⟩
  ·cases h;exact⟨0,rfl,by rfl⟩
  ·cases h;exact⟨1,rfl,by rfl⟩
  ·cases h
 rintro r S' ⟨rfl,out,hp,rfl⟩
 have hbn:∀n:Nat,dz 3 (bZ 2 3 n)=true:=λn=>by
  unfold bZ;split
  ·exact gi rfl
  ·rfl
 have hrn3:∀(B n:Nat),pH (jP [3,0,1] B) (.cells [bZ 2 3 n])=.cells [bZ 1 3 n]:=λB n=>by
  show SO.cells [fh _ _]=_;rw[dD];rfl
 refine⟨by simp only[gP,B4,gD,cj,an,af,al,decide_true,↓sP,↓hbn];first | done | rfl,3,.ready,none,[(2,.ptr 0 0)],by rfl,by decide,by rfl,?_⟩
 have hS2:(dI (fW (fW [SO.cells [bG],SO.gone] (SO.mC N)) (SO.loop lc .ready none [(2,.ptr 0 0)])) [3,0,1] [2] [gP lc,.cells [bZ 2 3 out.length],jv out]).set 3 .gone=[.cells [bZ 1 3 out.length],jv out,.mC N,.gone]:=by
  simp only[dI,fW,ek,c9,fU,gA,jp,i7,List.map,aj,md,↓hrn3,↓tP];rfl
 rw[hS2];change aE _ _ _ ⟨[(2,.ptr 0 0)],13,[.cells [bZ 1 3 out.length],jv out,.mC N,.gone],[{ fn:=none,Ew:=N,args:=[],cap:=[] }]⟩ _;refine(zV) ?_;refine zA [(4,bZ 0 3 out.length)] [jv out,.mC N] (Fg.rn (f':=[(4,bZ 0 3 out.length)]) (n:=13) (S':=[jv out,.mC N]) [1,2] ii rfl (Mf (bq @dD @tP)) (Mg (bq @dD @tP))) ?_;refine aE.ret ?_
 (try simp only[eQ,cX,bU,bK])
 exact⟨rfl,[(4,bZ 0 3 out.length)],⟨rfl,trivial⟩,rfl,.inl ⟨rfl,1,rfl,⟨[bZ 0 3 out.length],by rfl,out,hp,rfl,rfl⟩,aS _,λi hi=>un hi (c5 _)⟩⟩
def rT(L:List (aD×Bool))(hlen:L.length<=100000)(hnd:(L.map (·.1)).Nodup):SC prog 155 [.fn 157 [] [.ip [lS cR ak L]]] [] [] (λr S'=>∃out:List aD,out.Perm (L.map (·.1))/\r=bZ 0 3 out.length/\S'=[jv out,.gone]):=by
 refine LJ 5 Tryz.func155 ?_;refine(jt) ?_;refine aT.sc [] i4 rfl rfl i4 rfl zc (Dn L hlen hnd) (by simp only[gD,cj,an];first | done | rfl) rfl ii (λi so h=>by simp at h) ?_ ?_
 ·rintro r S' ⟨out,hp,rfl,rfl⟩;exact⟨fk 1 3 _,by simp only[B4,↓sP];first | done | rfl⟩
 ·rintro r S' ⟨out,hp,rfl,rfl⟩;have e1:fh (jP [] ([]:List SO).length) (bZ 0 3 out.length)=bZ 0 3 out.length:=dD _ 0 3 _
  have e2:dI [] [] [] [jv out,.gone]=[jv out,.gone]:=by
   simp only[dI,c9,fU,gA,jp,i7,List.map,↓tP];rfl
  rw[e1,e2]
  refine oA [(4,bZ 0 3 out.length)] [jv out,.gone] zH<|(zR)<|(zE) ?_;exact zP [.tmp 2] (hq:=by (try simp only[ew,bH]);first | done | (exact⟨out,hp,rfl,rfl⟩))
def zn{l out:List aD}(hp:out.Perm l)(hn:l.Nodup):gU out=gU l:=
 vO ((fJ out).trans hp) hn ((ru (hp.nodup_iff.2 hn)).imp λ{a b} h=>by
  cases k:vF b a with
  | false=>rfl
  | true=>have:=oC h k;rw[CX] at this;cases this)
def Ba:SC prog 74 [.fn 157 [] [.ip [lS cR ak []]],.fn 76 [] []] [] [] (λr S'=>r=bG/\S'=[]):=by
 refine LJ 12 func74 ?_;refine(jt) ?_;refine aT.sc [] i4 rfl rfl i4 rfl zc (rT [] (aS _) a7) (by simp only[gD,cj,an];first | done | rfl) rfl ii (λi so h=>by simp at h) ?_ ?_
 ·rintro r S' ⟨out,hp,rfl,rfl⟩;exact⟨fk 1 3 _,by simp only[B4,↓sP];first | done | rfl⟩
 ·rintro r S' ⟨out,hp,rfl,rfl⟩;obtain rfl:out=[]:=Perm.eq_nil hp
  refine oA [(7,bG),(1,.fn 76 [] [])] [] (bX (show fh (jP [] ([]:List SO).length) (bZ 0 3 ([]:List aD).length)=bG from rfl))<|(zR)<|(zC)<|(zK GP)<|(zR)<|(zV)<|(zE) ?_;exact zP [.tmp 4]
def D5(L:List (aD×Bool))(hlen:L.length<=100000)(hnd:(L.map (·.1)).Nodup)(hne:L≠[]):SC prog 74 [.fn 157 [] [.ip [lS cR ak L]],.fn 76 [] []] [] [] (λr S'=>r=.buf 0 L.length 3 none/\S'=[.cells ((gU (L.map (·.1))).flatMap aF)]):=by
 refine LJ 12 func74 ?_;refine(jt) ?_;refine aT.sc [] i4 rfl rfl i4 rfl zc (rT L hlen hnd) (by simp only[gD,cj,an];first | done | rfl) rfl ii (λi so h=>by simp at h) ?_ ?_
 ·rintro r S' ⟨out,hp,rfl,rfl⟩;exact⟨fk 1 3 _,by simp only[B4,↓sP];first | done | rfl⟩
 ·rintro r S' ⟨out,hp,rfl,rfl⟩;have e1:fh (jP [] ([]:List SO).length) (bZ 0 3 out.length)=bZ 0 3 out.length:=dD _ 0 3 _
  have e2:dI [] [] [] [jv out,.gone]=[jv out,.gone]:=by
   simp only[dI,c9,fU,gA,jp,i7,List.map,↓tP];rfl
  rw[e1,e2]
  have hol:out.length=L.length:=by rw[hp.length_eq,aj]
  have hon:out≠[]:=λe=>hne (t8 (by rw[<-hol,e];rfl));have hss:=GQ out i5 hon (hp.nodup_iff.2 hnd);rw[zn hp hnd,hol] at hss;have hcs:∀(r:Nat->Nat) (q:List aD),mn r (q.flatMap aF)=q.flatMap aF:=λr q=>bn (aA db q);have hcb:∀(B:Nat) (q:List aD),hY B (q.flatMap aF)=true:=λB q=>bI (aA db q);have hck:∀(o:Nat) (q:List aD),(q.flatMap aF).map (aY o)=q.flatMap aF:=λo q=>bC db o q;rw[Ic hon,hol,ef (λh=>hne (t8 h))]
  refine oA [(7,.buf 0 L.length 3 none),(1,.fn 76 [] [])] [.cells (out.flatMap aF)] zH<|(zR)<|(zC) ?_;refine zS [0] (cG hcs hcb hck) hss ?_;refine(zR)<|(zV)<|(zE) ?_;exact zP [.tmp 4]
def rW(L:List (aD×Bool))(hlen:L.length<=100000)(hnd:(L.map (·.1)).Nodup):PC prog 30 [lS cR ak L] (·=an 3 (gU (L.map (·.1))) aF):=by
 refine pB 6 Tryz.func30 ?_;refine(jt)<|(zK (IU L) (hfl:=.inr (bg.refl rfl))) ?_
 by_cases hn0:L=[]
 ·subst hn0
  refine zS [] trivial Ba ?_;exact(zR)<|zo [.tmp 2] (r:=an 3 ([]:List aD) aF) (hw:=.nil _)
 ·have hss:=D5 L hlen hnd hn0;have hcs:∀(r:Nat->Nat) (q:List aD),mn r (q.flatMap aF)=q.flatMap aF:=λr q=>bn (aA db q);have hcb:∀(B:Nat) (q:List aD),hY B (q.flatMap aF)=true:=λB q=>bI (aA db q);have hck:∀(o:Nat) (q:List aD),(q.flatMap aF).map (aY o)=q.flatMap aF:=λo q=>bC db o q
  have hsl:(gU (L.map (·.1))).length=L.length:=by rw[(fJ _).length_eq,aj]
  refine zS [] (cG hcs hcb hck) hss ?_;exact(zR)<|zo [.tmp 2] (r:=.sl L.length 3 ((gU (L.map (·.1))).flatMap aF)) (hw:=.buf rfl (by rw[<-hsl,ej ia];exact bg.refl (aA db _)) (by rw[aZ ia,hsl];exact ap _)) (hq:=by rw[sB,hsl])
abbrev eD(m:List (aD×Bool))(L:List aD):List (aD×Bool):=L.foldl (λm f=>cq f true m) m
def uV(m:List (aD×Bool))(L:List aD)(f:aD):eD m (L++[f])=cq f true (eD m L):=by unfold eD;rw[List.foldl_append];rfl
def ox(m:List (aD×Bool))(L K:List aD):eD m (L++K)=eD (eD m L) K:=by unfold eD;rw[List.foldl_append]
def iG(r:Nat->Nat)(m:List (aD×Bool)):pH r (bE cR ak m)=bE cR ak m:=by
 unfold bE;rw[pH,bn (po (uv:=ak) (λ_=>rfl) m)]
def eL(B:Nat)(m:List (aD×Bool)):my B (bE cR ak m)=true:=by
 unfold bE;rw[my,bI (po (uv:=ak) (λ_=>rfl) m)]
def mq(m0:List (aD×Bool))(kind:Int)(part:List Nat)(names:List (List Nat))(hlen:names.length<=1000000):
 SC prog 29 [.map 0,ab kind,ah part,an 1 names (aB ah)] [bE cR ak m0] [] (λr S'=>r=.cm []/\S'=[bE cR ak (eD m0 (names.map λn=>⟨kind,part,n⟩))]):=by
 refine OH 22 Tryz.func29 ?_;refine(zV)<|(zs) ?_;refine zL names (λk=>True) (λk=>[(0,.map 0),(1,ab kind),(2,ah part),(10,an 1 names (aB ah)),(11,ab names.length),(12,ab k),(1000000,.ptr 0 0)]) (λk=>[bE cR ak (eD m0 ((names.take k).map λn=>⟨kind,part,n⟩))]) (bX (cG @take_zero.{0} @map_nil.{0,0} @foldl_nil.{0,0})) zp ?_;intro k hk hall;refine zT names k ?_ ?_;rintro rfl;rotate_left;intro n hx hlt;rotate_left
 ·refine(gh) ?_;simp only[eQ,cX,bU,bK,if_true];rw[ba];exact zP []
 refine(gB) ?_;obtain⟨M,hM⟩:∃M,M=eD m0 ((names.take k).map λn=>⟨kind,part,n⟩):=⟨_,rfl⟩
 have hnx:eD m0 ((names.take (k+1)).map λn=>⟨kind,part,n⟩)=cq ⟨kind,part,n⟩ true M:=by rw[cD hx,bh,bi,map_nil,uV,<-hM]
 rw[<-hM];clear hM
 refine(aw (cG hlt (aQ (e:=1) (enc:=aB ah) (λ_=>rfl) hx) @aB.eq_1))<|(zs) ?_;refine aE.r0 i4 (by simp only[dJ,cj,an,aJ,m8,m7,↓reduceIte,ad,af,am,ac,al,ar,az,bT,I3 (l:=M)];first | done | rfl) ?_;refine(aw (zi hlt hlen)) ?_;refine zX hlt (bX hnx) trivial
def KU(l:List (List Nat)):(rJ l).length<=l.length:=by
 have:∀n (l:List (List Nat)),l.length=n->(rJ l).length<=l.length:=by
  intro n
  induction n with
  | zero=>intro l h;rw[t8 h];exact ap _
  | succ n ih=>
   intro l h
   rcases List.eq_nil_or_concat l with rfl | ⟨a,x,rfl⟩
   ·exact ap _
   ·have ha:a.length=n:=by simpa using h
    have:=ih a ha;rw[List.concat_eq_append,Hy];split<;>simp<;>omega
 exact this _ l rfl
structure rZ (b:dY):Prop where
 fC:∀r∈b.rules,gp r.cond
 yX:∀r∈b.cI,gp r.cond
 PI:∀d∈b.ec,Cf d
 hold:∀h∈b.holds,h.members.length<=1000000/\h.back.length<=1000000
 lr:b.rules.length<=100
 lc:b.cI.length<=100
 ld:b.ec.length<=100
 lh:b.holds.length<=100
 ls:b.fE.length<=1000000
 lx:b.nL.length<=1000000
def fP(r:jl):cC r=[ah r.name,ah r.kind,ab r.cond.op,ah r.cond.name,ah r.cond.value,ab r.cond.n,ab r.cond.extra,.sl r.cond.kids.length 6 (r.cond.kids.flatMap aX)]:=by
 unfold cC;rw[cr]
def qg(r:jl):(cC r).length=8:=by rw[fP];rfl
def tS(b:dY)(ps:List ai)(day:Int)(p:ai)(r:jl):Bool:=decide (r.kind=p.kind)&&(!sY b.nL p.name r.name day&&!(decide (nP ps r.cond p.name day=2)))
def nB(ps:List ai)(day:Int)(p:ai)(r:jl):Bool:=decide (r.kind=p.kind)&&!(decide (nP ps r.cond p.name day=0))
def EW{m:List (aD×Bool)}{q:jl->Bool}{g:jl->aD}{l:List jl}{k:Nat}{r:jl}(h:l[k]?=some r):eD m (((l.take (k+1)).filter q).map g)=if q r=true then cq (g r) true (eD m (((l.take k).filter q).map g)) else eD m (((l.take k).filter q).map g):=by
 rw[cD h,ch,c4,filter_nil];split
 ·rw[bh,bi,map_nil,uV]
 ·rw[b4]
def FT(ds:List dZ)(c:List aL)(l:List bu)(part:List Nat)(day:Int):(kU ds c l part day).length<=ds.length:=by
 unfold kU LL;refine a8 (KU _) ?_;rw[(qE _).length_eq,aj];refine a8 (bd _ _) ?_;unfold tG;split
 ·exact aS _
 ·split
  ·exact aS _
  ·exact b8 _ _
abbrev qN(c:List aL)(dmg:bx)(b:dY)(l:List bu)(ps:List ai)(day:Int)(p:ai):Fm:=[(7,.ip (ae p)),(1,.ip (aM b)),(2,.ip [ab day]),(3,.ip [an 14 ps ae]),(4,.ptr 0 0),(5,.ip (an 3 c ao::aC dmg)),(6,.ip [an 14 l aq]),(1000000,.ptr 0 0),(1000001,.ptr 1 0)]
def Gg(c:List aL)(dmg:bx)(b:dY)(l:List bu)(ps:List ai)(day:Int)(p:ai)(m0:List (aD×Bool))(hb:rZ b)(hc:mr c)(hl:l.length<20)(hle:∀e∈l,lK e)(hps:ps.length<=100000)(hpr:∀p∈ps,p.props.length<=1000000):
 SC prog 31 [.ag (ae p),.ip (aM b),.ip [ab day],.ip [an 14 ps ae],.ptr 0 0,.ip (an 3 c ao::aC dmg),.ip [an 14 l aq]] [.cells [.map 1],bE cR ak m0] [] (λr S'=>r=.cm []/\S'=[.cells [.map 1],bE cR ak (eD m0 (od c b l ps day p))]):=by
 refine Rx 113 Tryz.func31 ?_;refine(zV) ?_;refine zZ (qN c dmg b l ps day p) 2 rfl (gu (bq @an.eq_1 @ae.eq_1))<|zA (qN c dmg b l ps day p) [.cells [.map 1],bE cR ak m0] (bX @bl)<|(aw @aM.eq_1) ?_
 have hlr:b.rules.length<=1000000:=a8 hb.lr ii;have hlc:b.cI.length<=1000000:=a8 hb.lc ii;rw[show od c b l ps day p=((b.rules.filter (tS b ps day p)).map λr=>⟨1,p.name,r.name⟩)++(((b.cI.filter (nB ps day p)).map λr=>⟨5,p.name,r.name⟩)++((kU b.ec c l p.name day).map (λn=>⟨3,p.name,n⟩)++(if ku c b.fE ps p.name day=true then [] else [⟨2,p.name,p.slot⟩]))) from rfl,ox,ox,ox]
 refine zA ((13,an 8 b.rules cC)::(14,ab b.rules.length)::(15,ab 0)::qN c dmg b l ps day p) [.cells [.map 1],bE cR ak m0] zH<|(zs) ?_;refine zL b.rules (λk=>True) (λk=>(13,an 8 b.rules cC)::(14,ab b.rules.length)::(15,ab k)::qN c dmg b l ps day p) (λk=>[.cells [.map 1],bE cR ak (eD m0 (((b.rules.take k).filter (tS b ps day p)).map λr=>⟨1,p.name,r.name⟩))]) (bX (gm @take_zero.{0} @filter_nil.{0} @map_nil.{0,0} @foldl_nil.{0,0})) zp ?_;intro k hk hall;refine zT b.rules k ?_ ?_;rintro rfl;rotate_left;intro r hx hlt;rotate_left
 rotate_left
 ·obtain⟨M,hM⟩:∃M,M=eD m0 (((b.rules.take k).filter (tS b ps day p)).map λr=>⟨1,p.name,r.name⟩):=⟨_,rfl⟩;have hnx:=EW (m:=m0) (q:=tS b ps day p) (g:=λr=>⟨1,p.name,r.name⟩) hx;rw[<-hM] at hnx ⊢;clear hM;have hre:=fP r;have hh:=vV ps r.cond p.name day hps hpr (hb.fC r (bb hx));rw[cr] at hh;have hadd:=mq M 1 p.name [r.name] (by show 1<=1000000;decide);rw[show eD M ([r.name].map λn=>(⟨1,p.name,n⟩:aD))=cq ⟨1,p.name,r.name⟩ true M from rfl] at hadd
  refine(gB)<|(aw (gm hlt (aQ (e:=8) (enc:=cC) qg hx) hre @bl))<|zA ((9,.ptr 2 0)::(13,an 8 b.rules cC)::(14,ab b.rules.length)::(15,ab k)::qN c dmg b l ps day p) [.cells [.map 1],bE cR ak M,.cells [ah r.name,ah r.kind,ab r.cond.op,ah r.cond.name,ah r.cond.value,ab r.cond.n,ab r.cond.extra,.sl r.cond.kids.length 6 (r.cond.kids.flatMap aX)]] (bX @bl) ?_
  cases g1:decide (r.kind=p.kind)
  ·rw[v6 (by unfold tS;rw[g1];simp)] at hnx
   refine(aw (bq g1 @ae.eq_1))<|(zN)<|(aw (zi hlt hlr)) ?_;refine zX hlt (bX hnx) trivial
  refine(fb (cG g1 @ae.eq_1 @aM.eq_1))<|(zK (DB b.nL p.name r.name day hb.lx)) ?_
  cases g2:sY b.nL p.name r.name day;rotate_left
  ·rw[v6 (by unfold tS;rw[g2];simp)] at hnx
   refine(zR)<|(zN)<|(aw (zi hlt hlr)) ?_;refine zX hlt (bX hnx) trivial
  refine(Mk @ae.eq_1)<|(zK hh) ?_
  cases g3:decide (nP ps r.cond p.name day=2);rotate_left
  ·rw[v6 (by unfold tS;rw[g3];simp)] at hnx
   refine(cJ g3)<|(zN)<|(aw (zi hlt hlr)) ?_;refine zX hlt (bX hnx) trivial
  rw[ut (by unfold tS;rw[g1,g2,g3];rfl)] at hnx
  refine(cJ g3)<|(zY)<|(fb (bq @ae.eq_1 @bl)) ?_;refine oZ ((50,an 1 [r.name] (aB ah))::(47,ah p.name)::(45,.map 1)::(13,an 8 b.rules cC)::(14,ab b.rules.length)::(15,ab k)::qN c dmg b l ps day p) 3 rfl ⟨.inr (.buf rfl (bg.refl rfl) (ap _)),zj⟩<|oA ((50,an 1 [r.name] (aB ah))::(47,ah p.name)::(45,.map 1)::(13,an 8 b.rules cC)::(14,ab b.rules.length)::(15,ab k)::qN c dmg b l ps day p) [.cells [.map 1],bE cR ak M] (bX @bl) ?_;refine zS [1] (cG @bl @iG @eL) hadd ?_;refine(zR)<|(aw (zi hlt hlr)) ?_;refine zX hlt (bX hnx) trivial
 refine(gh) ?_;simp only[eQ,cX,bU,bK,if_true];rw[ba];generalize eD m0 ((b.rules.filter (tS b ps day p)).map λr=>⟨1,p.name,r.name⟩)=m1
 refine(aw @aM.eq_1)<|zA ((54,an 8 b.cI cC)::(55,ab b.cI.length)::(56,ab 0)::qN c dmg b l ps day p) [.cells [.map 1],bE cR ak m1] zH<|(zs) ?_;refine zL b.cI (λk=>True) (λk=>(54,an 8 b.cI cC)::(55,ab b.cI.length)::(56,ab k)::qN c dmg b l ps day p) (λk=>[.cells [.map 1],bE cR ak (eD m1 (((b.cI.take k).filter (nB ps day p)).map λr=>⟨5,p.name,r.name⟩))]) (bX (gm @take_zero.{0} @filter_nil.{0} @map_nil.{0,0} @foldl_nil.{0,0})) zp ?_;intro k hk hall;refine zT b.cI k ?_ ?_;rintro rfl;rotate_left;intro r hx hlt;rotate_left
 rotate_left
 ·obtain⟨M,hM⟩:∃M,M=eD m1 (((b.cI.take k).filter (nB ps day p)).map λr=>⟨5,p.name,r.name⟩):=⟨_,rfl⟩;have hnx:=EW (m:=m1) (q:=nB ps day p) (g:=λr=>⟨5,p.name,r.name⟩) hx;rw[<-hM] at hnx ⊢;clear hM;have hre:=fP r;have hh:=vV ps r.cond p.name day hps hpr (hb.yX r (bb hx));rw[cr] at hh;have hadd:=mq M 5 p.name [r.name] (by show 1<=1000000;decide);rw[show eD M ([r.name].map λn=>(⟨5,p.name,n⟩:aD))=cq ⟨5,p.name,r.name⟩ true M from rfl] at hadd
  refine(gB)<|(aw (gm hlt (aQ (e:=8) (enc:=cC) qg hx) hre @bl))<|zA ((11,.ptr 2 0)::(54,an 8 b.cI cC)::(55,ab b.cI.length)::(56,ab k)::qN c dmg b l ps day p) [.cells [.map 1],bE cR ak M,.cells [ah r.name,ah r.kind,ab r.cond.op,ah r.cond.name,ah r.cond.value,ab r.cond.n,ab r.cond.extra,.sl r.cond.kids.length 6 (r.cond.kids.flatMap aX)]] (bX @bl) ?_
  cases g1:decide (r.kind=p.kind)
  ·rw[v6 (by unfold nB;rw[g1];simp)] at hnx
   refine(aw (bq g1 @ae.eq_1))<|(zN)<|(aw (zi hlt hlc)) ?_;refine zX hlt (bX hnx) trivial
  refine(fb (cG g1 @ae.eq_1 @aM.eq_1))<|(zK hh) ?_
  cases g3:decide (nP ps r.cond p.name day=0);rotate_left
  ·rw[v6 (by unfold nB;rw[g3];simp)] at hnx
   refine(cJ g3)<|(zN)<|(aw (zi hlt hlc)) ?_;refine zX hlt (bX hnx) trivial
  rw[ut (by unfold nB;rw[g1,g3];rfl)] at hnx
  refine(cJ g3)<|(zY)<|(fb (bq @ae.eq_1 @bl)) ?_;refine oZ ((80,an 1 [r.name] (aB ah))::(77,ah p.name)::(75,.map 1)::(54,an 8 b.cI cC)::(55,ab b.cI.length)::(56,ab k)::qN c dmg b l ps day p) 3 rfl ⟨.inr (.buf rfl (bg.refl rfl) (ap _)),zj⟩<|oA ((80,an 1 [r.name] (aB ah))::(77,ah p.name)::(75,.map 1)::(54,an 8 b.cI cC)::(55,ab b.cI.length)::(56,ab k)::qN c dmg b l ps day p) [.cells [.map 1],bE cR ak M] (bX @bl) ?_;refine zS [1] (cG @bl @iG @eL) hadd ?_;refine(zR)<|(aw (zi hlt hlc)) ?_;refine zX hlt (bX hnx) trivial
 refine(gh) ?_;simp only[eQ,cX,bU,bK,if_true];rw[ba];generalize eD m1 ((b.cI.filter (nB ps day p)).map λr=>⟨5,p.name,r.name⟩)=m2;refine zA (qN c dmg b l ps day p) [.cells [.map 1],bE cR ak m2] zH ?_;have hov:=I0 b.ec c l p.name day hb.PI (a8 hb.ld ii) hc hl hle;have hovl:(kU b.ec c l p.name day).length<=1000000:=a8 (FT _ _ _ _ _) (a8 hb.ld ii);have hpm:=wS c b.fE ps p.name day hc hb.ls i5;generalize kU b.ec c l p.name day=ov at hov hovl ⊢;generalize ku c b.fE ps p.name day=pm at hpm ⊢;have hadd:=mq m2 3 p.name ov hovl;generalize eD m2 (ov.map λn=>⟨3,p.name,n⟩)=m3 at hadd ⊢;have hadd2:=mq m3 2 p.name [p.slot] (by show 1<=1000000;decide);rw[show eD m3 ([p.slot].map λn=>(⟨2,p.name,n⟩:aD))=eD m3 [⟨2,p.name,p.slot⟩] from rfl] at hadd2;refine(zs) ?_;refine kZ [0,0,2,0,8,0,32,0,0,256,0,2040,4095] ?_;refine(kRf (bq @ae.eq_1 @aM.eq_1)) ?_;refine qR.kg i4 rfl rfl i4 rfl rfl zc hov (λS=>bg.refl rfl) rfl ?_;refine qR.Pp (f':=qN c dmg b l ps day p) (S':=[.cells [.map 1],bE cR ak m3]) zW rfl (λds_ K_ hK_=>?_) ?_
 ·refine zS [1] (cG @bl @iG @eL) hadd ?_;refine oA (qN c dmg b l ps day p) [.cells [.map 1],bE cR ak m3] zH ?_;exact .nil hK_
 refine(kN)<|(fb (bq @ae.eq_1 @aM.eq_1))<|(zK hpm) ?_
 cases pm
 ·refine(zR)<|(zY)<|(fb (bq @ae.eq_1 @bl)) ?_;refine oZ ((111,an 1 [p.slot] (aB ah))::(108,ah p.name)::(106,.map 1)::qN c dmg b l ps day p) 2 rfl ⟨.inr (.buf rfl (bg.refl rfl) (ap _)),zj⟩<|oA ((111,an 1 [p.slot] (aB ah))::(108,ah p.name)::(106,.map 1)::qN c dmg b l ps day p) [.cells [.map 1],bE cR ak m3] (bX @bl) ?_;refine zS [1] (cG @bl @iG @eL) hadd2 ?_;refine(zR) ?_;exact zP []
 ·refine(zR)<|(zN) ?_;exact zP []
def Bz:∀(L:List aD) {m:List (aD×Bool)},(m.map (·.1)).Nodup->((eD m L).map (·.1)).Nodup
 | [],_,h=>h
 | f::L,_,h=>Bz L (tI (k:=f) (v:=true) h)
def yw:∀(L:List aD) (m:List (aD×Bool)),(eD m L).length<=m.length+L.length
 | [],_=>ap _
 | f::L,m=>by
  have h1:=yw L (cq f true m);have h2:=xv (k:=f) (v:=true) (m:=m);rw[jp];show(eD (cq f true m) L).length<=_;omega
def xb(c:List aL)(b:dY)(l:List bu)(ps:List ai)(day:Int)(p:ai):(od c b l ps day p).length<=b.rules.length+b.cI.length+b.ec.length+1:=by
 unfold od;rw[md,md,md,aj,aj,aj];have h1:=bd (λr:jl=>decide (r.kind=p.kind)&&(!sY b.nL p.name r.name day&&!(decide (nP ps r.cond p.name day=2)))) b.rules;have h2:=bd (λr:jl=>decide (r.kind=p.kind)&&!(decide (nP ps r.cond p.name day=0))) b.cI;have h3:=FT b.ec c l p.name day
 have h4:(if ku c b.fE ps p.name day=true then [] else [(⟨2,p.name,p.slot⟩:aD)]).length<=1:=by split<;>simp
 omega
def xu{α:Type}(enc:α->List SV)(z:α)(o:Option α):iV enc z o=.cm [.ag (enc (o.getD z)),ak o.isSome]:=by cases o<;>rfl
def vp{c:List aL}{dmg:bx}{l:List bu}{day:Int}(hl:∀e∈l,lK e):(runN c dmg l day).1.length<=l.length:=by
 have key:∀(l:List bu) (i:Nat) (s:List ai),(∀p∈s,fj p)->(∀e∈l,lK e)->(kW c dmg i l s).1.length<=s.length+l.length:=by
  intro l
  induction l with
  | nil=>exact λi s _ _=>ap _
  | cons e r ih=>
   intro i s hs he;obtain⟨q1,q2,_,_⟩:=om (c:=c) (ps:=s) (e:=e) hs (he e bc);rw[kW,jp];split
   ·split
    ·have:=ih (i+1) _ (xC (dmg:=dmg) (e:=e) q1).1 λx hx=>he x (ax _ hx);rw[(xC (dmg:=dmg) (e:=e) q1).2] at this;omega
    ·have:=ih (i+1) _ q1 λx hx=>he x (ax _ hx);omega
   ·exact aS _
 unfold runN;split
 ·have:=key (eF (dR (eN day) l)) 0 [] (λp h=>un h bw) λe he=>hl e (xz he);have:=xw l (eN day);simp only[i7] at *;omega
 ·exact aS _
def Io{c:List aL}{dmg:bx}{l:List bu}{day:Int}(hl:∀e∈l,lK e):∀p∈(runN c dmg l day).1,fj p:=by
 have key:∀(l:List bu) (i:Nat) (s:List ai),(∀p∈s,fj p)->(∀e∈l,lK e)->∀p∈(kW c dmg i l s).1,fj p:=by
  intro l
  induction l with
  | nil=>exact λi s h _=>h
  | cons e r ih=>
   intro i s hs he;obtain⟨q1,q2,_,_⟩:=om (c:=c) (ps:=s) (e:=e) hs (he e bc);rw[kW];split
   ·split
    ·exact ih _ _ (xC q1).1 λx hx=>he x (ax _ hx)
    ·exact ih _ _ q1 λx hx=>he x (ax _ hx)
   ·exact λp h=>un h bw
 unfold runN;split
 ·exact key _ _ _ (λp h=>un h bw) λe he=>hl e (xz he)
 ·exact λp h=>un h bw
def K9{m:List (aD×Bool)}{g:List Nat->List aD}{l:List (List Nat)}{k:Nat}{n:List Nat}(h:l[k]?=some n):eD m ((l.take (k+1)).flatMap g)=eD (eD m ((l.take k).flatMap g)) (g n):=by
 rw[cD h,List.flatMap_append,ox,c2,List.flatMap_nil,b4]
def Lb{m:List (aD×Bool)}{q:mu->Bool}{g:mu->aD}{l:List mu}{k:Nat}{r:mu}(h:l[k]?=some r):eD m (((l.take (k+1)).filter q).map g)=if q r=true then cq (g r) true (eD m (((l.take k).filter q).map g)) else eD m (((l.take k).filter q).map g):=by
 rw[cD h,ch,c4,filter_nil];split
 ·rw[bh,bi,map_nil,uV]
 ·rw[b4]
abbrev QX(c:List aL)(dmg:bx)(b:dY)(l:List bu)(vehicle:List Nat)(day:Int):Fm:=[(3,ah vehicle),(5,.ip (an 3 c ao::aC dmg)),(6,.ip (aM b)),(7,.ip [an 14 l aq]),(9,.ip [ab day])]
abbrev na(c:List aL)(dmg:bx)(b:dY)(l:List bu)(ps:List ai)(vehicle:List Nat)(day:Int):Fm:=(11,.ptr 1 0)::(12,.ip [an 14 ps ae])::QX c dmg b l vehicle day
def Ai(c:List aL)(dmg:bx)(b:dY)(l:List bu)(vehicle:List Nat)(day:Int)(hb:rZ b)(hc:mr c)(hf:gE dmg)(hl:l.length<20)(hle:∀e∈l,lK e):
 PC prog 12 [.ag (an 3 c ao::aC dmg),.ag (aM b),an 14 l aq,ah vehicle,ab day] (·=an 3 (jc c dmg b l vehicle day) aF):=by
 have hfl:(aC dmg).length=3:=eS dmg;have hft:(aC dmg).take 3=aC dmg:=b9 (by rw[hfl];exact ap _);have hfk:=λo:Nat=>bR (o:=o) (aV dmg);have hfn:=λo:Nat=>bV (o:=o) (aV dmg);have hru:=Al c dmg l day hc hf hl hle;have hpl:(runN c dmg l day).1.length<=20:=a8 (vp hle) i5;have hpo:=Io (c:=c) (dmg:=dmg) (day:=day) hle;unfold Sm at hru;obtain⟨R,hR⟩:∃R,R=jc c dmg b l vehicle day:=⟨_,rfl⟩;rw[<-hR];unfold jc at hR;generalize runN c dmg l day=rr at hru hpl hpo hR;have hfi:=λn=>gb rr.1 n i5;simp only[xu] at hfi;have hki:=λn=>jk c n hc.len;simp only[xu] at hki
 refine pB 116 Tryz.func12 ?_;refine(aw (cG hfk hfn @aM.eq_1)) ?_;refine zZ [(3,ah vehicle),(5,.ip (an 3 c ao::aC dmg)),(6,.ptr 1 0),(7,.ptr 2 0),(9,.ptr 3 0)] 0 rfl ⟨.inl rfl,.inr (.ptr rfl (bg.refl (aV dmg)) (aS _)),zj⟩<|zZ [(3,ah vehicle),(5,.ip (an 3 c ao::aC dmg)),(6,.ip (aM b)),(7,.ptr 2 0),(9,.ptr 3 0)] 1 rfl (gu (bq @an.eq_1 @aM.eq_1))<|zZ [(3,ah vehicle),(5,.ip (an 3 c ao::aC dmg)),(6,.ip (aM b)),(7,.ip [an 14 l aq]),(9,.ptr 3 0)] 2 rfl (gu @an.eq_1)<|zZ (QX c dmg b l vehicle day) 3 rfl (gu @an.eq_1)<|zA (QX c dmg b l vehicle day) [] zH<|(zV)<|zA ((11,.ptr 1 0)::QX c dmg b l vehicle day) [bE cR ak [],.cells [.map 0]] (bX (show SO.map [] [] none=bE cR ak [] from rfl))<|(fb (bq hfl hft))<|(zK hru (hwk:=(.cons (.ag (bg.refl (aV dmg))) (bg.refl rfl))) (hfl:=.inr (.cons (.ag (bg.refl (aV dmg))) (bg.refl rfl))))<|(cJ @bl) ?_
 generalize rr.1=ps at *
 refine zZ ((14,ab rr.2.2)::na c dmg b l ps vehicle day) 2 rfl (gu @an.eq_1)<|zA ((14,ab rr.2.2)::na c dmg b l ps vehicle day) [bE cR ak [],.cells [.map 0]] (bX @bl)<|(zC)<|(zK (hfi vehicle) (hfl:=.inr (bg.refl rfl))) ?_
 obtain⟨v,hv⟩:∃v,v=(bD ps vehicle).getD ai.zero:=⟨_,rfl⟩;obtain⟨is,his⟩:∃is,is=(bD ps vehicle).isSome:=⟨_,rfl⟩;rw[<-hv,<-his];have hek:ae v=[ah v.name,ah v.kind,ah v.aR,ah v.slot,ab v.made,ab v.since,ak v.bo,an 2 v.props aH,ab v.l1,ab v.l2,ab v.l3,ab v.l4,ab v.l5,ab v.l6]:=rfl
 refine(cJ (bq @bl hek)) ?_;refine zZ ((16,ak is)::(15,.ip (ae v))::(14,ab rr.2.2)::na c dmg b l ps vehicle day) 2 rfl (gu (bq @an.eq_1 @ae.eq_1))<|zA ((16,ak is)::(15,.ip (ae v))::(14,ab rr.2.2)::na c dmg b l ps vehicle day) [bE cR ak [],.cells [.map 0]] (bX @bl)<|(fb @ae.eq_1)<|(zK (hki v.kind) (hfl:=.inr (bg.refl rfl))) ?_
 obtain⟨kd,hkd⟩:∃kd,kd=(dg c v.kind).getD aL.zero:=⟨_,rfl⟩;rw[<-hkd];generalize (dg c v.kind).isSome=kis
 refine(cJ (bq @bl @ao.eq_1)) ?_;refine zZ ((17,.ip (ao kd))::(16,ak is)::(15,.ip (ae v))::(14,ab rr.2.2)::na c dmg b l ps vehicle day) 2 rfl (gu (cG @an.eq_1 @ae.eq_1 @ao.eq_1))<|zA ((17,.ip (ao kd))::(16,ak is)::(15,.ip (ae v))::(14,ab rr.2.2)::na c dmg b l ps vehicle day) [bE cR ak [],.cells [.map 0]] (bX @bl) ?_
 obtain⟨bad,hbad⟩:∃bad:Bool,bad=(!(decide (rr.2.2=0))||(!is||(v.bo||!kd.vehicle))):=⟨_,rfl⟩
 (repeat refine aE.seq ?_)
 refine aE.mono (Q:=λex st=>ex=.normal/\Fg st ⟨(63,ak bad)::(15,.ip (ae v))::na c dmg b l ps vehicle day,116,[bE cR ak [],.cells [.map 0]],[]⟩) ?_ ?_
 ·cases g0:decide (rr.2.2=0)
  ·rw[g0] at hbad;subst hbad;refine(aw g0) ?_;exact⟨rfl,(bX @bl)⟩
  cases g1:is
  ·rw[g0,g1] at hbad;subst hbad;refine(aw g0) ?_;exact⟨rfl,(bX @bl)⟩
  cases g2:v.bo;rotate_left
  ·rw[g0,g1,g2] at hbad;subst hbad;refine(aw (cG g0 @ae.eq_1 g2)) ?_;exact⟨rfl,(bX (cG @bl @ae.eq_1 g2))⟩
  cases g3:kd.vehicle
  ·rw[g0,g1,g2,g3] at hbad;subst hbad;refine(aw (lM g0 @ae.eq_1 g2 @ao.eq_1 g3)) ?_;exact⟨rfl,(bX (cG @bl @ae.eq_1 g2))⟩
  ·rw[g0,g1,g2,g3] at hbad;subst hbad;refine(aw (lM g0 @ae.eq_1 g2 @ao.eq_1 g3)) ?_;exact⟨rfl,(bX (cG @bl @ae.eq_1 g2))⟩
 rintro _ _ ⟨rfl,hfg⟩;simp only[cX];refine aE.fg hfg ?_;clear hfg
 have hRb:R=if bad=true then [⟨4,vehicle,[]⟩] else gU (tD (sf c b l ps vehicle day v)):=by
  rw[hR,hbad]
  cases hm:bD ps vehicle with
  | none=>rw[his,hm];simp
  | some w=>
   rw[hm] at hv his;have hv:v=w:=hv;subst hv;simp only[his,Option.isSome_some,c1,el,<-hkd];by_cases k0:rr.2.2=0
   ·cases v.bo<;>cases kd.vehicle<;>simp[k0]
   ·simp[k0]
 cases bad;rotate_left
 ·rw[ut rfl] at hRb;have hadd:=mq [] 4 vehicle [[]] (by show 1<=1000000;decide);rw[show eD [] ([[]].map λn=>(⟨4,vehicle,n⟩:aD))=[(⟨4,vehicle,[]⟩,true)] from rfl] at hadd;have hord:=rW [(⟨4,vehicle,[]⟩,true)] (by show 1<=100000;decide) gt;rw[show gU ([((⟨4,vehicle,[]⟩:aD),true)].map (·.1))=R from hRb.symm] at hord
  refine(zY)<|(fb @bl) ?_;refine oZ ((66,an 1 [([]:List Nat)] (aB ah))::(65,ah vehicle)::(64,.map 0)::na c dmg b l ps vehicle day) 2 rfl ⟨.inr (.buf rfl (bg.refl rfl) (ap _)),zj⟩<|oA ((66,an 1 [([]:List Nat)] (aB ah))::(65,ah vehicle)::(64,.map 0)::na c dmg b l ps vehicle day) [bE cR ak [],.cells [.map 0]] (bX @bl) ?_;refine zS [0] (cG @bl @iG @eL) hadd ?_;refine(zR) ?_;refine aE.fg (Fg.lQ (f':=[(11,.ptr 1 0)]) (S':=[.gone,.cells [lS cR ak [(⟨4,vehicle,[]⟩,true)]]]) 0 rfl g9 zj ⟨.inl rfl,.inr ⟨by decide,.inr ⟨_,_,rfl,rfl,.cons (l9 (λ_=>rfl) rfl) .nil⟩⟩,trivial⟩) ?_;exact zZ [(11,.ip [lS cR ak [((⟨4,vehicle,[]⟩:aD),true)]])] 1 rfl ⟨.inr (.ptr rfl (bg.refl rfl) (aS _)),trivial⟩<|zA [(11,.ip [lS cR ak [((⟨4,vehicle,[]⟩:aD),true)]])] [] zH<|(zC)<|(zK hord (hfl:=.inr (bg.refl rfl)))<|(zR)<|zo [.tmp 10] (r:=an 3 R aF) (hw:=Wk.refl rfl)
 rw[v6 Bool.false_ne_true] at hRb;have hpr:∀p∈ps,p.props.length<=1000000:=λp hp=>(hpo p hp).len;have hask:=λp m=>Gg c dmg b l ps day p m hb hc hl hle i5 hpr;have hin:=nF ps vehicle i5;have hil:=ke ps vehicle;unfold sf at hRb;generalize ea ps vehicle=I at hin hil hRb;have hrc:∀(r:Nat->Nat) (l:List (List Nat)),mn r (l.flatMap (aB ah))=l.flatMap (aB ah):=λr l=>bn (aA (λ_=>rfl) l);have hbc:∀(B:Nat) (l:List (List Nat)),hY B (l.flatMap (aB ah))=true:=λB l=>bI (aA (λ_=>rfl) l);have hkc:∀(o:Nat) (l:List (List Nat)),(l.flatMap (aB ah)).map (aY o)=l.flatMap (aB ah):=λo l=>bC (enc:=aB ah) (λ_=>rfl) o l
 have hlI:I.length<=1000000:=by omega
 have hlh:b.holds.length<=1000000:=a8 hb.lh ii
 refine(kY)<|zA ((19,.fn 31 [] [.ip (aM b),.ip [ab day],.ip [an 14 ps ae],.ptr 1 0,.ip (an 3 c ao::aC dmg),.ip [an 14 l aq]])::(15,.ip (ae v))::na c dmg b l ps vehicle day) [bE cR ak [],.cells [.map 0]] (bX @bl)<|(fb @ae.eq_1) ?_;refine zS [1,0] (cG @bl @iG @eL) (hask v []) ?_ (hc:=Hg (bq @cons_append.{0} @nil_append.{0}));refine(zR) ?_
 obtain⟨m1,hm1⟩:∃m1,m1=eD [] (od c b l ps day v):=⟨_,rfl⟩;rw[<-hm1];refine zA ((19,.fn 31 [] [.ip (aM b),.ip [ab day],.ip [an 14 ps ae],.ptr 1 0,.ip (an 3 c ao::aC dmg),.ip [an 14 l aq]])::na c dmg b l ps vehicle day) [bE cR ak m1,.cells [.map 0]] (bX @bl) ?_
 (repeat refine aE.seq ?_)
 refine aE.mono (Q:=λex st=>ex=.normal/\Fg st ⟨(76,an 1 I (aB ah))::(77,ab I.length)::(78,ab 0)::(19,.fn 31 [] [.ip (aM b),.ip [ab day],.ip [an 14 ps ae],.ptr 1 0,.ip (an 3 c ao::aC dmg),.ip [an 14 l aq]])::na c dmg b l ps vehicle day,116,[bE cR ak m1,.cells [.map 0]],[]⟩) ?_ ?_
 ·by_cases hL:I=[]
  ·subst hL;rw[show bZ 0 1 ([]:List (List Nat)).length=bG from rfl,gl] at hin;refine(zC) ?_;refine aT.sk [] i4 rfl rfl i4 rfl zc (hin) (by simp only[gD,cj,an,↓reduceIte,ad,af,ay,am,ac,al,↓bl,iG,eL];first | done | rfl) rfl ii (by simp only[CL,gD,cj,an,↓bl,iG,eL]<;>(repeat' apply be)<;>first | trivial | rfl | (intro hh;cases hh)) (by simp only[B4,gD,cj,an,af,al,decide_true,↓bl,iG,eL];first | done | rfl) (by simp only[B4,gD,cj,an,af,al,decide_true,↓bl,iG,eL];first | done | rfl) (by simp only[gD,cj,an,↓reduceIte,ad,af,ay,am,ac,al,↓bl,iG,eL];first | done | rfl) (by simp only[gD,cj,an,↓reduceIte,ad,af,ay,am,ac,al,↓bl,iG,eL,eK,ek,cE,aY,dJ];first | done | rfl) (by simp only[gD,cj,an,↓reduceIte,ad,af,ay,am,ac,al,↓bl,iG,eL,eK,ek,cE,aY,dJ];first | done | rfl) ?_;refine(zR) ?_;exact⟨rfl,Fg.trans (Fg.wk (f':=(76,an 1 ([]:List (List Nat)) (aB ah))::(77,ab (([]:List (List Nat)).length))::(78,ab 0)::(19,.fn 31 [] [.ip (aM b),.ip [ab day],.ip [an 14 ps ae],.ptr 1 0,.ip (an 3 c ao::aC dmg),.ip [an 14 l aq]])::na c dmg b l ps vehicle day) ⟨.inr (Wk.nil 1),zj⟩) (bX @bl)⟩
  ·have hL0:¬I.length=0:=λh=>hL (t8 h);rw[ef (o:=0) (e:=1) hL0,fw hL] at hin;refine(zC) ?_;refine aT.sk [] i4 rfl rfl i4 rfl zc (hin) (by simp only[gD,cj,an,↓reduceIte,ad,af,ay,am,ac,al,↓bl,iG,eL,hrc,hbc,hkc];first | done | rfl) rfl ii (by simp only[CL,gD,cj,an,↓bl,iG,eL,hrc,hbc,hkc]<;>(repeat' apply be)<;>first | trivial | rfl | (intro hh;cases hh)) (by simp only[B4,gD,cj,an,af,al,decide_true,↓bl,iG,eL,hrc,hbc,hkc];first | done | rfl) (by simp only[B4,gD,cj,an,af,al,decide_true,↓bl,iG,eL,hrc,hbc,hkc];first | done | rfl) (by simp only[gD,cj,an,↓reduceIte,ad,af,ay,am,ac,al,↓bl,iG,eL,hrc,hbc,hkc];first | done | rfl) (by simp only[gD,cj,an,↓reduceIte,ad,af,ay,am,ac,al,↓bl,iG,eL,hrc,hbc,hkc,eK,ek,cE,aY,dJ];first | done | rfl) (by simp only[gD,cj,an,↓reduceIte,ad,af,ay,am,ac,al,↓bl,iG,eL,hrc,hbc,hkc,eK,ek,cE,aY,dJ];first | done | rfl) ?_;refine(zR) ?_;exact⟨rfl,Fg.trans (Fg.freeze (f':=(76,an 1 I (aB ah))::(77,ab I.length)::(78,ab 0)::(19,.fn 31 [] [.ip (aM b),.ip [ab day],.ip [an 14 ps ae],.ptr 1 0,.ip (an 3 c ao::aC dmg),.ip [an 14 l aq]])::na c dmg b l ps vehicle day) 2 rfl g9 ⟨.inr (.buf rfl (by rw[ej (enc:=aB ah) (e:=1) (λ_=>rfl)];exact bg.refl (aA (λ_=>rfl) _)) (by rw[aZ (enc:=aB ah) (e:=1) (λ_=>rfl)];exact ap _)),zj⟩) (bX @bl)⟩
 rintro _ _ ⟨rfl,hfg⟩;simp only[cX];refine aE.fg hfg ?_;clear hfg hin;refine(zs) ?_;refine zL I (λk=>True) (λk=>(76,an 1 I (aB ah))::(77,ab I.length)::(78,ab k)::(19,.fn 31 [] [.ip (aM b),.ip [ab day],.ip [an 14 ps ae],.ptr 1 0,.ip (an 3 c ao::aC dmg),.ip [an 14 l aq]])::na c dmg b l ps vehicle day) (λk=>[bE cR ak (eD m1 ((I.take k).flatMap λn=>od c b l ps day (dq ps n))),.cells [.map 0]]) (bX (cG @take_zero.{0} @List.flatMap_nil.{0,0} @foldl_nil.{0,0})) zp ?_;intro k hk hall;refine zT I k ?_ ?_;rintro rfl;rotate_left;intro n hx hlt;rotate_left;rotate_left
 ·have hnx:=K9 (m:=m1) (g:=λn=>od c b l ps day (dq ps n)) hx;generalize eD m1 ((I.take k).flatMap λn=>od c b l ps day (dq ps n))=M at hnx ⊢
  refine(gB)<|(aw (gm hlt (aQ (e:=1) (enc:=aB ah) (λ_=>rfl) hx) @aB.eq_1 @bl))<|(zC)<|(zK (hfi n) (hfl:=.inr (bg.refl rfl))) ?_
  rw[show(bD ps n).getD ai.zero=dq ps n from rfl];generalize (bD ps n).isSome=nis;have hnx:eD m1 ((I.take (k+1)).flatMap λn=>od c b l ps day (dq ps n))=eD M (od c b l ps day (dq ps n)):=hnx;generalize dq ps n=v at hnx ⊢;have hek:ae v=[ah v.name,ah v.kind,ah v.aR,ah v.slot,ab v.made,ab v.since,ak v.bo,an 2 v.props aH,ab v.l1,ab v.l2,ab v.l3,ab v.l4,ab v.l5,ab v.l6]:=rfl
  refine(cJ (bq @bl hek)) ?_;refine zZ ((22,.ip (ae v))::(76,an 1 I (aB ah))::(77,ab I.length)::(78,ab k)::(19,.fn 31 [] [.ip (aM b),.ip [ab day],.ip [an 14 ps ae],.ptr 1 0,.ip (an 3 c ao::aC dmg),.ip [an 14 l aq]])::na c dmg b l ps vehicle day) 2 rfl (gu (bq @an.eq_1 @ae.eq_1))<|zA ((22,.ip (ae v))::(76,an 1 I (aB ah))::(77,ab I.length)::(78,ab k)::(19,.fn 31 [] [.ip (aM b),.ip [ab day],.ip [an 14 ps ae],.ptr 1 0,.ip (an 3 c ao::aC dmg),.ip [an 14 l aq]])::na c dmg b l ps vehicle day) [bE cR ak M,.cells [.map 0]] (bX @bl)<|(fb @ae.eq_1) ?_;refine zS [1,0] (cG @bl @iG @eL) (hask v M) ?_ (hc:=Hg (bq @cons_append.{0} @nil_append.{0}));refine(zR)<|(aw (zi hlt hlI)) ?_;refine zX hlt (bX hnx) trivial
 refine(gh) ?_;simp only[eQ,cX,bU,bK,if_true];rw[ba];obtain⟨m2,hm2⟩:∃m2,m2=eD m1 (I.flatMap λn=>od c b l ps day (dq ps n)):=⟨_,rfl⟩;rw[<-hm2]
 refine(aw @aM.eq_1)<|zA ((93,an 4 b.holds cB)::(94,ab b.holds.length)::(95,ab 0)::na c dmg b l ps vehicle day) [bE cR ak m2,.cells [.map 0]] (bX @bl)<|(zs) ?_;refine zL b.holds (λk=>True) (λk=>(93,an 4 b.holds cB)::(94,ab b.holds.length)::(95,ab k)::na c dmg b l ps vehicle day) (λk=>[bE cR ak (eD m2 (((b.holds.take k).filter λh=>decide (h.vehicle=vehicle)&&AN h).map λh=>⟨6,vehicle,h.id⟩)),.cells [.map 0]]) (bX (gm @take_zero.{0} @filter_nil.{0} @map_nil.{0,0} @foldl_nil.{0,0})) zp ?_;intro k hk hall;refine zT b.holds k ?_ ?_;rintro rfl;rotate_left;intro h hx hlt;rotate_left
 rotate_left
 ·have hnx:=Lb (m:=m2) (q:=λh=>decide (h.vehicle=vehicle)&&AN h) (g:=λh=>⟨6,vehicle,h.id⟩) hx;generalize eD m2 (((b.holds.take k).filter λh=>decide (h.vehicle=vehicle)&&AN h).map λh=>⟨6,vehicle,h.id⟩)=M at hnx ⊢;have hadd:=mq M 6 vehicle [h.id] (by show 1<=1000000;decide);rw[show eD M ([h.id].map λn=>(⟨6,vehicle,n⟩:aD))=cq ⟨6,vehicle,h.id⟩ true M from rfl] at hadd;have hho:=hb.hold h (bb hx);have hout:=L6 h hho.1 hho.2
  refine(gB)<|(aw (gm hlt (aQ (e:=4) (enc:=cB) (λ_=>rfl) hx) @cB.eq_1 @bl))<|zA ((25,.ptr 2 0)::(93,an 4 b.holds cB)::(94,ab b.holds.length)::(95,ab k)::na c dmg b l ps vehicle day) [bE cR ak M,.cells [.map 0],.cells [ah h.id,ah h.vehicle,an 1 h.members (aB ab),an 1 h.back (aB ab)]] (bX @bl) ?_
  cases g1:decide (h.vehicle=vehicle)
  ·rw[v6 (by rw[g1];simp)] at hnx
   refine(aw g1)<|(zN)<|(aw (zi hlt hlh)) ?_;refine zX hlt (bX hnx) trivial
  refine(fb g1)<|(zK hout) ?_
  cases g2:AN h
  ·rw[v6 (by rw[g2];simp)] at hnx
   refine(zR)<|(zN)<|(aw (zi hlt hlh)) ?_;refine zX hlt (bX hnx) trivial
  rw[ut (by rw[g1,g2];rfl)] at hnx
  refine(zR)<|(zY)<|(fb @bl) ?_;refine oZ ((111,an 1 [h.id] (aB ah))::(108,ah vehicle)::(107,.map 0)::(93,an 4 b.holds cB)::(94,ab b.holds.length)::(95,ab k)::na c dmg b l ps vehicle day) 3 rfl ⟨.inr (.buf rfl (bg.refl rfl) (ap _)),zj⟩<|oA ((111,an 1 [h.id] (aB ah))::(108,ah vehicle)::(107,.map 0)::(93,an 4 b.holds cB)::(94,ab b.holds.length)::(95,ab k)::na c dmg b l ps vehicle day) [bE cR ak M,.cells [.map 0]] (bX @bl) ?_;refine zS [0] (cG @bl @iG @eL) hadd ?_;refine(zR)<|(aw (zi hlt hlh)) ?_;refine zX hlt (bX hnx) trivial
 refine(gh) ?_;simp only[eQ,cX,bU,bK,if_true];rw[ba];obtain⟨m3,hm3⟩:∃m3,m3=eD m2 ((b.holds.filter λh=>decide (h.vehicle=vehicle)&&AN h).map λh=>⟨6,vehicle,h.id⟩):=⟨_,rfl⟩;rw[<-hm3]
 have hm:m3=eD [] (od c b l ps day v++((I.flatMap λn=>od c b l ps day (dq ps n))++(b.holds.filter λh=>decide (h.vehicle=vehicle)&&AN h).map λh=>⟨6,vehicle,h.id⟩)):=by rw[ox,ox,<-hm1,<-hm2,<-hm3]
 have hk3:(m3.map (·.1)).Nodup:=by rw[hm];exact Bz _ a7
 have hl3:m3.length<=100000:=by
  rw[hm];refine a8 (yw _ _) ?_;rw[i7,md,md,aj,List.length_flatMap];have q1:=xb c b l ps day v;have q2:=bd (λh:mu=>decide (h.vehicle=vehicle)&&AN h) b.holds
  have q3:(I.map λn=>(od c b l ps day (dq ps n)).length).sum<=I.length*301:=by
   have:∀J:List (List Nat),(J.map λn=>(od c b l ps day (dq ps n)).length).sum<=J.length*301:=by
    intro J
    induction J with
    | nil=>exact ap _
    | cons n J ih=>
     have q:=xb c b l ps day (dq ps n);have:=hb.lr;have:=hb.lc;have:=hb.ld;rw[bi,List.sum_cons,jp];omega
   exact this I
  have:=hb.lr;have:=hb.lc;have:=hb.ld;have:=hb.lh;omega
 have hord:=rW m3 hl3 hk3;rw[show gU (m3.map (·.1))=R by rw[hRb,hm];rfl] at hord;clear hm hm3 hRb
 refine zA [(11,.ptr 1 0)] [bE cR ak m3,.cells [.map 0]] zH ?_;refine aE.fg (Fg.lQ (f':=[(11,.ptr 1 0)]) (S':=[.gone,.cells [lS cR ak m3]]) 0 rfl g9 zj ⟨.inl rfl,.inr ⟨by decide,.inr ⟨_,_,rfl,rfl,.cons (l9 (λ_=>rfl) rfl) .nil⟩⟩,trivial⟩) ?_;exact zZ [(11,.ip [lS cR ak m3])] 1 rfl ⟨.inr (.ptr rfl (bg.refl rfl) (aS _)),trivial⟩<|zA [(11,.ip [lS cR ak m3])] [] zH<|(zC)<|(zK hord (hfl:=.inr (bg.refl rfl)))<|(zR)<|zo [.tmp 10] (r:=an 3 R aF) (hw:=Wk.refl rfl)
end Go.Proofs
namespace Go.Ev
def Pq{P:Program}{t:TypeId}{xs ys:List AV}{b:Bool}(h:da P .eql t (.agg xs) (.agg ys)=some (.bool b)):da P .neq t (.agg xs) (.agg ys)=some (.bool (!b)):=by
 change cond (P.eqGuardType P.depth t) none ((lk P 8 t (.agg xs) (.agg ys)).map AV.bool)=_ at h;show cond (P.eqGuardType P.depth t) none ((lk P 8 t (.agg xs) (.agg ys)).map λb=>AV.bool (!b))=_
 revert h
 cases P.eqGuardType P.depth t
 ·cases lk P 8 t (.agg xs) (.agg ys)
  ·intro h;cases h
  ·intro h;injection h with h;injection h with h;subst h;rfl
 ·intro h;cases h
end Go.Ev
namespace Go.Proofs
open Go.Ev
set_option maxRecDepth 100000
def Gr(a b:aD):da prog .eql 65 (.agg [.int .i64 a.kind,.str a.part,.str a.name]) (.agg [.int .i64 b.kind,.str b.part,.str b.name])=some (.bool (decide (a=b))):=
 sN (ks:=[.i .i64,.s,.s]) zW zW (by simp only[aJ,m7]) rfl rfl (aD.eq a b)
def I7(a b:List aD)(ha:a.length<=1000000):PC prog 11 [an 3 a aF,an 3 b aF] (·=ak (decide (a=b))):=by
 refine pB 26 Tryz.func11 ?_;refine(zV) ?_;cases g:decide ((a.length:Int)=b.length)
 ·exact(aw g)<|(cF)<|zo [.tmp 4] (hq:=by rw[wd (λh=>wt g (by rw[h]))])
 refine(aw g)<|(kY) ?_
 have hl:a.length=b.length:=Int.ofNat.inj (ww g);refine(zs) ?_;refine zL a (λk=>a.take k=b.take k) (λk=>[(0,an 3 a aF),(1,an 3 b aF),(5,ab k)]) (λk=>[]) zH zp ?_;intro k hk hall;by_cases hlt:k<a.length;rotate_left
 ·obtain rfl:k=a.length:=by omega
  rw[ba,hl,ba] at hall
  exact(aw (show decide ((a.length:Int)<(a.length:Int))=false by simp))<|(gh)<|(zV)<|zo [.tmp 4] (hq:=by rw[wl hall])
 have hd:=show decide ((k:Int)<(a.length:Int))=true by simp only[wp];omega
 obtain⟨x,hx⟩:∃x,a[k]?=some x:=⟨a[k],li hlt⟩
 have hlt2:k<b.length:=by omega
 obtain⟨y,hy⟩:∃y,b[k]?=some y:=⟨b[k],li hlt2⟩
 refine(aw hd)<|(gB) ?_
 have hn:=Pq (Gr x y);refine(zs) ?_;refine oS [0,0,3,7,0,0,48,112,255] ?_;cases he:decide (x=y)
 ·rw[he] at hn
  exact(uD (xX hlt hlt2 (aQ (e:=3) (enc:=aF) (λ_=>rfl) hx) (aQ (e:=3) (enc:=aF) (λ_=>rfl) hy) @aF.eq_1 hn))<|(zM)<|(cF)<|zo [.tmp 4] (hq:=by rw[wd (λh=>by subst h;rw[hx] at hy;exact wt he (Option.some.inj hy))])
 ·rw[he] at hn
  refine(uD (xX hlt hlt2 (aQ (e:=3) (enc:=aF) (λ_=>rfl) hx) (aQ (e:=3) (enc:=aF) (λ_=>rfl) hy) @aF.eq_1 hn))<|(zM)<|(zN)<|(aw (zi hlt ha)) ?_;refine zX hlt zH (by rw[cD hx,cD hy,hall,ww he])
end Go.Proofs
