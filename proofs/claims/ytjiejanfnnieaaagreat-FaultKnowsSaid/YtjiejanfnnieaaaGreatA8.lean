/- Lemmas of this claim, each with its conditions. -/
import Derived.Test.YtjiejanfnnieaaaGreatA7
import Derived.Test.YtjiejanfnnieaaaGreatA6
import Derived.Test.YtjiejanfnnieaaaGreatA5
import Derived.Test.YtjiejanfnnieaaaGreatA4
import Derived.Test.YtjiejanfnnieaaaGreatA3
import Derived.Test.YtjiejanfnnieaaaGreatA2
import Derived.WalkKit
import Derived.WalkSpells
import Derived.WalkLawsBesides
import Derived.Deep.QuietTactic
import Derived.BigQuiet
import Derived.StillTailTactics
import Derived.Sort.Grow
import Derived.Shelf.SlGeneric
import Derived.Shelf.SlLaysF0
import Derived.Shelf.Small.Strs
import Derived.Shelf.Small.Bits
import Derived.Ground.SlsfProg
import Derived.Ground.NamesProg
import Derived.Test.YtjiejanfnnieaaaGreatProg
import Derived.Shelf.SlSortCmp.Xorshift
import Derived.Shelf.SlSortCmp.InsertionK
import Derived.Shelf.SlSortCmp.WholeK
set_option linter.all false
set_option maxHeartbeats 8000000
open Go.Proofs.Tryz (prog func156 func149 func157 func238 func287 func312 func64 func74 func76)
open List (mem_map map_nil take_zero nil_append cons_append filter_nil foldl_nil mem_filter Perm mem_append)
open Nat renaming reduceLeDiff -> ac, reduceEqDiff -> ad, reduceAdd -> af, reduceLT -> al, reduceMul -> am, le_refl -> ap, reduceSub -> ay, zero_le -> aS, le_trans -> a8, not_lt_zero -> c5, mul_one -> c6, add_zero -> em
open List renaming length_map -> aj, mem_cons_of_mem -> ax, getElem?_map -> a6, nodup_nil -> a7, take_length -> ba, mem_of_getElem? -> bb, mem_cons_self -> bc, length_filter_le -> bd, map_append -> bh, map_cons -> bi, nodup_cons -> bk, not_mem_nil -> bv, append_nil -> bw, foldl_append -> b4, foldl_cons -> b5, length_filterMap_le -> b7, take_of_length_le -> b8, mem_cons -> ca, mem_map_of_mem -> cb, filter_append -> ch, getElem?_eq_none -> ci, pairwise_cons -> cv, flatMap_cons -> c2, filter_cons -> c4, append -> d7, drop_zero -> d8
open And renaming intro -> be
open Bool renaming and_eq_true -> bt, or_eq_true -> cc, true_and -> cd, false_eq_true -> cp, and_true -> c0, not_true -> c1, decide_and -> dv, not_false -> d6, false_or -> el
open Array renaming getElem?_eq_getElem -> b6, eq_empty_of_size_eq_zero -> b9, getElem?_push -> ce, getElem?_modify -> ck, getElem?_toList -> cl, length_toList -> co, size_push -> dF
open Go.Proofs.Tryz renaming ntmps77 -> cn, func77 -> c3, func226 -> dc, func233 -> dd, func237 -> dl, ntmps79 -> dt, func79 -> d9
open Int renaming lt_trichotomy -> ct
namespace Go.Proofs
open Go.Ev
set_option maxRecDepth 100000
def kR{p q:Prop}(h:p->q:=by intro h;(repeat (first | refine rI.ri g9 rfl g9 rfl zl zl (by first | exact trivial | ((simp only[BF])<;>(repeat' apply And.intro)<;>first | exact True.intro | exact .inr rfl | (refine .inr ?_;simp only[dD,bY,an,aH,m7,m6,↓reduceIte,Nat.reduceEqDiff,Nat.reduceAdd,Nat.reduceMul,Nat.reduceLeDiff,Nat.reduceLT,ar,aw,bP,bf];first | done | rfl) | exact .inl (by kernel_rfl))) ?_ | refine rI.r g9 rfl g9 g9 zl ?_ (by first | exact trivial | ((simp only[BF])<;>(repeat' apply And.intro)<;>first | exact True.intro | exact .inr rfl | (refine .inr ?_;simp only[dD,bY,an,aH,m7,m6,↓reduceIte,Nat.reduceEqDiff,Nat.reduceAdd,Nat.reduceMul,Nat.reduceLeDiff,Nat.reduceLT,ar,aw,bP,bf];first | done | rfl) | exact .inl (by kernel_rfl))) | refine rI.rg g9 rfl g9 rfl (by intro S_;simp only[dD,bY,an,aH,m7,m6,↓reduceIte,Nat.reduceEqDiff,Nat.reduceAdd,Nat.reduceMul,Nat.reduceLeDiff,Nat.reduceLT,ar,aw,bP];first | done | rfl) (by first | exact trivial | ((simp only[BF])<;>(repeat' apply And.intro)<;>first | exact True.intro | exact .inr rfl | (refine .inr ?_;simp only[dD,bY,an,aH,m7,m6,↓reduceIte,Nat.reduceEqDiff,Nat.reduceAdd,Nat.reduceMul,Nat.reduceLeDiff,Nat.reduceLT,ar,aw,bP,bf];first | done | rfl) | exact .inl (by kernel_rfl))) ?_ | refine rI.s g9 rfl g9 rfl ?_ | fail));exact h)(k:p):q:=h k
def kRf{p q r:Prop}(f:r)(h:r->p->q:=by intro f h;(repeat (first | refine rI.ri g9 rfl g9 rfl (sP @f) (sP @f) (by first | exact trivial | ((simp only[BF])<;>(repeat' apply And.intro)<;>first | exact True.intro | exact .inr rfl | (refine .inr ?_;simp only[dD,bY,an,aH,m7,m6,↓reduceIte,Nat.reduceEqDiff,Nat.reduceAdd,Nat.reduceMul,Nat.reduceLeDiff,Nat.reduceLT,ar,aw,bP,bf,f];first | done | rfl) | exact .inl (by kernel_rfl))) ?_ | refine rI.r g9 rfl g9 g9 (sP @f) ?_ (by first | exact trivial | ((simp only[BF])<;>(repeat' apply And.intro)<;>first | exact True.intro | exact .inr rfl | (refine .inr ?_;simp only[dD,bY,an,aH,m7,m6,↓reduceIte,Nat.reduceEqDiff,Nat.reduceAdd,Nat.reduceMul,Nat.reduceLeDiff,Nat.reduceLT,ar,aw,bP,bf,f];first | done | rfl) | exact .inl (by kernel_rfl))) | refine rI.rg g9 rfl g9 rfl (by intro S_;simp only[dD,bY,an,aH,m7,m6,↓reduceIte,Nat.reduceEqDiff,Nat.reduceAdd,Nat.reduceMul,Nat.reduceLeDiff,Nat.reduceLT,ar,aw,bP,f];first | done | rfl) (by first | exact trivial | ((simp only[BF])<;>(repeat' apply And.intro)<;>first | exact True.intro | exact .inr rfl | (refine .inr ?_;simp only[dD,bY,an,aH,m7,m6,↓reduceIte,Nat.reduceEqDiff,Nat.reduceAdd,Nat.reduceMul,Nat.reduceLeDiff,Nat.reduceLT,ar,aw,bP,bf,f];first | done | rfl) | exact .inl (by kernel_rfl))) ?_ | refine rI.s g9 rfl g9 rfl ?_ | fail));exact h)(k:p):q:=h f k
def kN{p q:Prop}(h:p->q:=by intro h;refine rI.nil ?_;(try change aE _ _ _ _ _);exact h)(k:p):q:=h k
section
variable {P:Program} {ro:Option Nat} {all:List Oper} {ms:List Nat} {n:Nat} {b:Bool} {hp:List Nat} {l:List (Nat×Oper)} {f:Fm} {S:List SO} {K:Fm->List SO->Prop} {i:Nat} {o:Oper} {d:Nat} {f0:Fm} {kl:List (Nat×Nat)} {Q:Ex->eR->Prop}
def kZ{id:Nat}{ops:Array Oper}{st:eR}{ol:List Oper}(ms:List Nat)(h:rI P ro ol ms st.n st.f [] true [] (cY 0 ol) st.f st.S λf' S'=>Q .normal ⟨f',st.n,S',st.ds⟩)(hol:ops.toList=ol:=by rfl)(hms:pd ol []=ms:=by kernel_rfl)(hok:((lQ 0 ol&&P.follows .mixedOrders)&&(CS ol ms (cY 0 ol)&&Mr ms (cY 0 ol)))=true:=by kernel_rfl):aE P ro (.region id ops true) st Q:=aE.TS hol hms hok h
def kA{f':Fm}{v:SV}{S':List SO}{k:Nat}(T:List Nat)(hst:eP all n [o]=true:=by rfl)(hdst:o.dst=some d:=by rfl)(hw:cV all f o.guard=some true:=by rfl)(hwr:ej o.op=true:=by rfl)(hms:hp.all (λj=>bR (ms.getD i 0) j)=true:=by kernel_rfl)(hT:((Ma all ms i).all λt=>T.contains t)=true:=by kernel_rfl)
 (hop:dO P f S o.op=some (v,S',some k):=by exact zl) (hf:eU k f=f':=by simp only[gJ,bY,an,↓reduceIte,Nat.reduceEqDiff,Nat.reduceAdd,Nat.reduceSub,Nat.reduceMul,Nat.reduceLeDiff,Nat.reduceLT,eU,eC,cI,bf,dD];first | done | rfl) (ht:Wb f0 f k T:=by (simp only[Wb])<;>(repeat' apply And.intro)<;>first | exact True.intro | rfl | (simp only[gJ,bY,an,↓reduceIte,Nat.reduceEqDiff,Nat.reduceAdd,Nat.reduceSub,Nat.reduceMul,Nat.reduceLeDiff,Nat.reduceLT,eU,eC,cI,bf,dD];first | done | rfl)) (hkl:BF ms i v kl:=by first | exact trivial | ((simp only[BF])<;>(repeat' apply And.intro)<;>first | exact True.intro | exact .inr rfl | (refine .inr ?_;simp only[dD,bY,an,aH,m7,m6,↓reduceIte,Nat.reduceEqDiff,Nat.reduceAdd,Nat.reduceMul,Nat.reduceLeDiff,Nat.reduceLT,ar,aw,bP,bf];first | done | rfl) | exact .inl (by kernel_rfl))) (h:rI P ro all ms n f0 ((i,k)::kl) false hp l ((d,v)::f') S' K):rI P ro all ms n f0 kl b hp ((i,o)::l) f S K:=.a T hst hdst hw hwr hms hT hop hf ht hkl h
end
def sub_eq(a b:vG):gn eK [AV.str a.kind,.str a.slot,.str a.other,.str a.qy,.int .i64 a.to] [AV.str b.kind,.str b.slot,.str b.other,.str b.qy,.int .i64 b.to]=(decide (a.kind=b.kind)&&(decide (a.slot=b.slot)&&(decide (a.other=b.other)&&(decide (a.qy=b.qy)&&decide (a.to=b.to))))):=by
 simp only[gn,eK,BE,ta,lU,cd,c0]
def JY(s:vG)(x y z:List Nat):dj prog .eql 147 (.agg [.str s.kind,.str s.slot,.str s.other,.str s.qy,.int .i64 s.to]) (.agg [.str x,.str y,.str z,.str s.qy,.int .i64 s.to])=some (.bool (decide (s.kind=x)&&(decide (s.slot=y)&&decide (s.other=z)))):=
 tN (ks:=[.s,.s,.s,.s,.i .i64]) zW zW (by simp only[aH,m6]) rfl rfl (by rw[sub_eq s ⟨x,y,z,s.qy,s.to⟩];simp)
def H9(ps:List ai)(p h:ai)(day:Int)(s:vG)(hlen:ps.length<=1000000):PC prog 68 ([.ag (eJ s)]++[.ip (ae h),.ip (ae p++ae h),.ip [ab day],.ip [an 14 ps ae]]) (·=ak ((decide (s.kind=h.kind)&&(decide (s.slot=p.slot)&&decide (s.other=p.kind)))&&(decide (day<=s.to)&&(decide (s.qy=[])||pN ps p s.qy)))):=by
 have heq:=JY s h.kind p.slot p.kind;generalize (decide (s.kind=h.kind)&&(decide (s.slot=p.slot)&&decide (s.other=p.kind)))=g1 at heq;have hb:=EK ps p h s.qy hlen;refine pB 42 Tryz.func68 ?_;rw[show ae p++ae h=[ah p.name,ah p.kind,ah p.aJ,ah p.slot,ab p.made,ab p.since,ak p.aY,an 2 p.props aG,ab p.l1,ab p.l2,ab p.l3,ab p.l4,ab p.l5,ab p.l6,ah h.name,ah h.kind,ah h.aJ,ah h.slot,ab h.made,ab h.since,ak h.aY,an 2 h.props aG,ab h.l1,ab h.l2,ab h.l3,ab h.l4,ab h.l5,ab h.l6] from rfl] at hb ⊢
 refine(az @eJ.eq_1)<|(az (bz @ae.eq_1 @eJ.eq_1)) ?_
 cases g1
 ·exact(az heq)<|zo [.tmp 6]
 cases g2:decide (day<=s.to)
 ·exact(az (bz heq g2))<|zo [.tmp 6]
 cases g3:decide (s.qy=[]);rotate_left
 ·exact(az (cL heq g2 g3))<|zo [.tmp 6]
 exact(fC (cL heq g2 g3))<|(zK hb)<|(zR)<|zo [.tmp 6]
abbrev wP(c:List aK)(fw:List vG)(ps:List ai)(part:List Nat)(day:Int):Fm:=[(1,an 5 fw eJ),(3,ah part),(5,.ip [an 3 c aq]),(7,.ip [an 14 ps ae]),(9,.ip [ab day])]
def yf(c:List aK)(fw:List vG)(ps:List ai)(part:List Nat)(day:Int)(hc:mS c)(hsub:fw.length<=1000000)(hlen:ps.length<=1000000):PC prog 23 [.ag [an 3 c aq],an 5 fw eJ,.ag [an 14 ps ae],ah part,ab day] (·=ak (gA c fw ps part day)):=by
 have hf:=iZ ps part hlen;have hs8:∀k∈c,k.bH.length<=1000000/\∀s∈k.bH,s.kinds.length<=1000000:=λk hk=>⟨(hc.kind k hk).2,λs hs=>(hc.slot k hk s hs).2⟩;unfold gA
 refine pB 56 Tryz.func23 ?_;refine(zV) ?_;refine zZ [(1,an 5 fw eJ),(3,ah part),(5,.ip [an 3 c aq]),(7,.ptr 1 0),(9,.ptr 2 0)] 0 rfl (gV @an.eq_1)<|zZ [(1,an 5 fw eJ),(3,ah part),(5,.ip [an 3 c aq]),(7,.ip [an 14 ps ae]),(9,.ptr 2 0)] 1 rfl (gV @an.eq_1)<|zZ (wP c fw ps part day) 2 rfl (gV @an.eq_1)<|zA (wP c fw ps part day) [] zH<|(zC) ?_;refine aR.k g9 rfl rfl g9 rfl zc (hf) (zw) (.inr (bm.refl (by cases bu ps part<;>rfl))) ?_
 cases hm:bu ps part with
 | none=>
  exact(cH (cL @jn.eq_1 @ae.eq_1 @ai.zero.eq_1))<|(yi)<|(zV)<|zo [.tmp 10]
 | some p=>
  have hf2:=iZ ps p.aJ hlen;refine(cH (bz @jn.eq_1 @ae.eq_1)) ?_;cases g1:decide (p.aJ=[]);rotate_left
  ·exact(az g1)<|(cB)<|zo [.tmp 10] (hq:=by show _=ak (if p.aJ=[] then true else _);rw[un (ww g1)])
  refine(az g1)<|(zN) ?_;refine zZ ((11,.ip (ae p))::wP c fw ps part day) 0 rfl (gV (bz @an.eq_1 @ae.eq_1))<|zA ((11,.ip (ae p))::wP c fw ps part day) [] zH<|(fC @ae.eq_1) ?_;refine aR.k g9 rfl rfl g9 rfl zc (hf2) (zw) (.inr (bm.refl (by cases bu ps p.aJ<;>rfl))) ?_
  cases hm2:bu ps p.aJ with
  | none=>
   exact(cH (cL @jn.eq_1 @ae.eq_1 @ai.zero.eq_1))<|(az @ae.eq_1)<|(zB)<|(yi)<|(zV)<|zo [.tmp 10] (hq:=by show _=ak (if p.aJ=[] then true else _);rw[ut (wt g1),hm2])
  | some h=>
   refine(cH (bz @jn.eq_1 @ae.eq_1)) ?_;refine zZ ((13,.ip (ae h))::(12,ak true)::(11,.ip (ae p))::wP c fw ps part day) 0 rfl (gV (bz @an.eq_1 @ae.eq_1))<|zA ((13,.ip (ae h))::(12,ak true)::(11,.ip (ae p))::wP c fw ps part day) [] zH<|(az @ae.eq_1) ?_;refine zZ ((14,.ip (ae p++ae h))::(13,.ip (ae h))::(12,ak true)::wP c fw ps part day) 0 rfl (gV (bz @an.eq_1 @ae.eq_1))<|zA ((14,.ip (ae p++ae h))::(13,.ip (ae h))::(12,ak true)::wP c fw ps part day) [] zH ?_
   have hs:=Fq (l:=fw) (λs=>(decide (s.kind=h.kind)&&(decide (s.slot=p.slot)&&decide (s.other=p.kind)))&&(decide (day<=s.to)&&(decide (s.qy=[])||pN ps p s.qy))) (fid:=68) (first:=[]) (cap:=[.ip (ae h),.ip (ae p++ae h),.ip [ab day],.ip [an 14 ps ae]]) hsub (λs _=>H9 ps p h day s hlen) ⟨rfl,rfl⟩
   refine(zB)<|(FA)<|(fC (cL @ae.eq_1 @cons_append.{0} @nil_append.{0}))<|(zK (E9 c h.kind p.slot p.kind hc.len hs8)) ?_
   cases hn:r8 c h.kind p.slot p.kind
   ·exact(zR)<|(NU)<|(zK hs)<|(zR)<|zo [.tmp 10] (hq:=by show _=ak (if p.aJ=[] then true else _);rw[ut (wt g1),hm2];show _=ak (r8 c h.kind p.slot p.kind||_);rw[hn];rfl)
   ·exact(zR)<|(cB)<|zo [.tmp 10] (hq:=by show _=ak (if p.aJ=[] then true else _);rw[ut (wt g1),hm2];show _=ak (r8 c h.kind p.slot p.kind||_);rw[hn];rfl)
structure Dk (d:ea):Prop where
 name:fD d.name
 kind:fD d.kind
 key:fD d.key
def JX(d:ea)(hd:Dk d):PC prog 146 [.ag (bl d)] (·=ak (sA d)):=by
 refine pB 43 Tryz.func146 ?_;unfold sA
 refine(az @bl.eq_1) ?_;refine zZ [(1,.ip (bl d))] 0 rfl (gV @bl.eq_1)<|zA [(1,.ip (bl d))] [] zH<|(fC @bl.eq_1)<|(zK (dZ d.name hd.name)) ?_
 cases cJ d.name
 ·exact(zR)<|zo [.tmp 2]
 refine(NV @bl.eq_1)<|(zK (dZ d.kind hd.kind)) ?_
 cases cJ d.kind
 ·exact(zR)<|zo [.tmp 2]
 refine(NV @bl.eq_1)<|(zK (dZ d.key hd.key)) ?_
 cases cJ d.key
 ·exact(zR)<|zo [.tmp 2]
 cases g1:decide (1<=d.after)
 ·exact(cH (bz g1 @bl.eq_1))<|zo [.tmp 2]
 cases g2:decide (d.after<=7)
 ·exact(cH (cL g1 g2 @bl.eq_1))<|zo [.tmp 2]
 cases g3:decide (0<=d.within)
 ·exact(cH (gh g1 g2 g3 @bl.eq_1))<|zo [.tmp 2]
 ·exact(cH (gh g1 g2 g3 @bl.eq_1))<|zo [.tmp 2]
def NH(e:aV)(part:List Nat)(day:Int):PC prog 228 ([.ag (ao e)]++[.ip [ah part],.ip [ab day]]) (·=ak (Es part day e)):=by
 refine pB 15 Tryz.func228 ?_;unfold Es;rw[du];refine(zV) ?_;cases g1:decide (e.part=part)
 ·exact(az g1)<|zo [.tmp 4]
 ·exact(az g1)<|zo [.tmp 4]
def H7(e:aV)(d:ea):PC prog 230 ([.ag (ao e)]++[.ip (bl d)]) (·=ak (decide (e.op=6)&&decide (e.key=d.key))):=by
 refine pB 15 Tryz.func230 ?_;rw[du];refine(zV) ?_;cases g1:decide (e.op=6)
 ·exact(az g1)<|zo [.tmp 3]
 ·exact(az (bz g1 @bl.eq_1))<|zo [.tmp 3]
def HF(e:aV)(d:ea):PC prog 231 ([.ag (ao e)]++[.ip (bl d)]) (·=ak (decide (e.op=d.after))):=by
 refine pB 10 Tryz.func231 ?_;rw[du]
 exact(zV)<|(az @bl.eq_1)<|zo [.tmp 3]
def NC(n b:Int)(d:ea)(hb:0<=b/\b<=40000)(hw:0<=d.within/\d.within<=40000):PC prog 232 ([ab n]++[.ip [ab b],.ip (bl d)]) (·=ak (decide (b<=n)&&decide (n<=b+d.within))):=by
 refine pB 17 Tryz.func232 ?_;refine(zV) ?_;cases g1:decide (b<=n)
 ·exact(az g1)<|zo [.tmp 4]
 ·exact(az (cL g1 @bl.eq_1 (FC (P:=prog) (t:=3) (show -9223372036854775808<=b+d.within/\b+d.within<=9223372036854775807 from⟨by omega,by omega⟩))))<|zo [.tmp 4]
structure nK where
 f:SV
 p:aV->Bool
def lD(c:nK):List SV:=[c.f]
def nK.ok(c:nK):Prop:=∃g cap,c.f=.fn g [] cap/\bZ cap=true/\∀e,PC prog g ([.ag (ao e)]++cap) (·=ak (c.p e))
def HK(c:nK)(hc:c.ok)(e:aV):PC prog 283 ([c.f]++[.ip (ao e)]) (·=ak (!(c.p e))):=by
 obtain⟨g,cap,h1,h2,h3⟩:=hc;have h3:=h3 e;have hk2:∀o:Nat,cap.map (bf o)=cap:=λo=>bV h2;have hn2:∀o:Nat,fp o cap=false:=λo=>bX h2;rw[h1];refine pB 8 Tryz.func283 ?_;rw[du] at h3 ⊢
 exact(jM)<|(zK h3 (hwk:=.cons (.ag (bm.refl rfl)) (bm.refl h2)))<|(zR)<|zo [.tmp 3]
def Kc{l:List nK}(e:aV)(hlen:l.length<=1000000)(hok:∀c∈l,c.ok):PC prog 313 [an 1 l lD,.fn 283 [] [.ip (ao e)]] (·=ab (gu (λc=>!(c.p e)) l)):=by
 refine pB 19 Tryz.func313 ?_;refine(az @an.eq_1)<|(zV)<|(zs) ?_;refine zL l (λk=>∀(i:Nat) y,i<k->l[i]?=some y->(!(y.p e))=false) (λk=>[(0,.sl l.length 1 (l.flatMap lD)),(1,.fn 283 [] [.ip (ao e)]),(7,ab l.length),(8,ab k)]) (λk=>[]) zH zp ?_;intro k hk hall;refine zT l k ?_ ?_;rintro rfl;rotate_left;intro x hx hlt;rotate_left
 ·exact(gE)<|(zV)<|zo [.tmp 4] (hq:=by rw[iP hall])
 ·have hxo:=hok x (bb hx);have hd1:=HK x hxo e;obtain⟨g,cap,h1,h2,_⟩:=hxo;have hxl:=aQ (e:=1) (enc:=lD) (λ_=>rfl) hx;have hn2:∀o:Nat,fp o cap=false:=λo=>bX h2;rw[show lD x=[x.f] from rfl,h1] at hxl;rw[h1] at hd1
  refine(gO)<|(zV)<|(fC (bz hlt hxl))<|(zK hd1 (hwk:=.cons (.fn .nil (bm.refl h2)) (bm.refl rfl))) ?_;refine aR.nil ?_
  change aE _ _ _ _ _;cases hpx:x.p e
  ·exact(cB)<|zo [.tmp 4] (hq:=by rw[mu (p:=λc=>!(c.p e)) hx (by rw[hpx];rfl) hall])
  ·refine(zN)<|(az (zi hlt hlen)) ?_;refine zX hlt zH ?_
   intro i y hi hy;by_cases hik:i=k
   ·subst hik;rw[hx] at hy;cases hy;rw[hpx];rfl
   ·exact hall i y ii hy
def JV{l:List nK}(e:aV)(hlen:l.length<=1000000)(hok:∀c∈l,c.ok):PC prog 282 [an 1 l lD,.fn 283 [] [.ip (ao e)]] (·=ak (l.any λc=>!(c.p e))):=by
 refine pB 9 Tryz.func282 ?_;exact(jM)<|(zK (Kc (l:=l) e hlen hok))<|(zR)<|zo [.tmp 4] (hq:=by rw[nT])
def xd(conds:List nK)(e:aV):Bool:=!(conds.any λc=>!(c.p e))
def gQ(conds:List nK)(l:List aV):List Int:=(l.filter (xd conds)).map aV.day
def MB{conds:List nK}{l:List aV}{k:Nat}{x:aV}(h:l[k]?=some x):gQ conds (l.take (k+1))=gQ conds (l.take k)++(if xd conds x=true then [x.day] else []):=by
 unfold gQ;rw[c8 h,ch,bh];cases hp:xd conds x<;>simp[hp]
def A7(l:List aV)(conds:List nK)(hlen:l.length<=100000)(hcl:conds.length<=1000000)(hok:∀c∈conds,c.ok):PC prog 229 [an 14 l ao,an 1 conds lD] (·=an 1 (gQ conds l) (aD ab)):=by
 refine pB 25 Tryz.func229 ?_
 have hlenl:l.length<=1000000:=by omega
 refine(oL)<|(zV)<|(zs) ?_;refine zL l (λk=>True) (λk=>[(1,an 1 conds lD),(5,cj 2 1 (gQ conds (l.take k)).length),(8,an 14 l ao),(9,ab l.length),(10,ab k)]) (λk=>QW 2 (gQ conds (l.take k)) (aD ab)) (bN (lB @take_zero.{0} (show gQ conds []=[] from rfl) @i5.{0} @lX @RZ)) zp ?_;intro k hk hall;refine zT l k ?_ ?_;rintro rfl;rotate_left;intro x hx hlt;rotate_left
 ·refine(gE) ?_;rw[ba]
  exact(zV)<|zo [.tmp 4] (r:=an 1 (gQ conds l) (aD ab)) (hw:=SY (enc:=aD ab) (e:=1) (λ_=>rfl) (λ_=>rfl) (gQ conds l))
 have hsn:=MB (conds:=conds) hx;have hxl:=aQ (e:=14) (enc:=ao) (λ_=>rfl) hx
 have hol:(gQ conds (l.take k)).length<=k:=by
  unfold gQ;rw[aj];exact a8 (bd _ _) (by rw[List.length_take];omega)
 generalize hO:gQ conds (l.take k)=out at hol hsn;have hfl:=bg (enc:=aD ab) (e:=1) (λ_=>rfl) out;have hkc:=λo=>bC (enc:=aD ab) (λ_=>rfl) o out;have hcf:=JV x hcl hok;refine(gO) ?_;by_cases hk0:out=[]
 ·rw[show QW 2 out (aD ab)=[] by rw[hk0];rfl,show cj 2 1 out.length=bF by rw[hk0];rfl]
  refine(az (cL hlt hxl @ao.eq_1))<|zA [(1,an 1 conds lD),(5,bF),(7,.ptr 0 0),(8,an 14 l ao),(9,ab l.length),(10,ab k)] [.cells (ao x)] zH ?_;refine zZ [(1,an 1 conds lD),(5,bF),(7,.ip (ao x)),(8,an 14 l ao),(9,ab l.length),(10,ab k)] 0 rfl ⟨.inl rfl,.inl rfl,.inr (.ptr rfl (bm.refl (bO x)) (by rw[cD];decide)),zj⟩<|zA [(1,an 1 conds lD),(5,bF),(7,.ip (ao x)),(8,an 14 l ao),(9,ab l.length),(10,ab k)] [.gone] zH<|(zC)<|(zK hcf (hfl:=.inr (bm.refl rfl)))<|(cH (show(!(conds.any λc=>!c.p x))=xd conds x from rfl)) ?_
  cases hpp:xd conds x
  ·rw[hpp,ut gt,bw] at hsn;refine(zN) ?_
   have f1:cj 2 1 (gQ conds (l.take (k+1))).length=bF:=by rw[hsn,hk0];rfl
   have f2:QW 2 (gQ conds (l.take (k+1))) (aD ab)=[]:=by rw[hsn,hk0];rfl
   refine(az (zi hlt hlenl)) ?_;refine zX hlt (bN (bz f1 f2)) trivial
  ·rw[hpp,un rfl] at hsn;refine(zY) ?_
   have f1:cj 2 1 (gQ conds (l.take (k+1))).length=.buf 2 1 1 none:=by rw[hsn,hk0];rfl
   have f2:QW 2 (gQ conds (l.take (k+1))) (aD ab)=[.gone,.gone,.cells [ab x.day]]:=by rw[hsn,hk0];rfl
   refine(az @du)<|(az (zi hlt hlenl)) ?_;refine zX hlt (bN (bz f1 f2)) trivial
 ·have hk1:¬out.length=0:=λh=>hk0 (t7 h);rw[PE hk0,eF hk1]
  refine(az (gh hlt hxl @ao.eq_1 Su))<|zA [(1,an 1 conds lD),(5,.buf 2 out.length 1 none),(7,.ptr 3 0),(8,an 14 l ao),(9,ab l.length),(10,ab k)] [.gone,.gone,.cells (out.flatMap (aD ab)),.cells (ao x)] (bN hkc) ?_;refine zZ [(1,an 1 conds lD),(5,.buf 2 out.length 1 none),(7,.ip (ao x)),(8,an 14 l ao),(9,ab l.length),(10,ab k)] 3 rfl ⟨.inl rfl,.inl rfl,.inr (.ptr rfl (bm.refl (bO x)) (by rw[cD];decide)),zj⟩<|zA [(1,an 1 conds lD),(5,.buf 2 out.length 1 none),(7,.ip (ao x)),(8,an 14 l ao),(9,ab l.length),(10,ab k)] [.gone,.gone,.cells (out.flatMap (aD ab))] zH<|(zC)<|(zK hcf (hfl:=.inr (bm.refl rfl)))<|(cH (show(!(conds.any λc=>!c.p x))=xd conds x from rfl)) ?_
  cases hpp:xd conds x
  ·rw[hpp,ut gt,bw] at hsn;refine(zN) ?_
   have f1:cj 2 1 (gQ conds (l.take (k+1))).length=.buf 2 out.length 1 none:=by rw[hsn,eF hk1]
   have f2:QW 2 (gQ conds (l.take (k+1))) (aD ab)=[.gone,.gone,.cells (out.flatMap (aD ab))]:=by rw[hsn,PE hk0];rfl
   refine(az (zi hlt hlenl)) ?_;refine zX hlt (bN (bz f1 f2)) trivial
  ·rw[hpp,un rfl] at hsn;refine(zY) ?_
   have f1:cj 2 1 (gQ conds (l.take (k+1))).length=.buf 2 (out.length+1) 1 none:=by rw[hsn,li];rfl
   have f2:QW 2 (gQ conds (l.take (k+1))) (aD ab)=[.gone,.gone,.cells ((out++[x.day]).flatMap (aD ab))]:=by rw[hsn,PF];rfl
   have happ:=mI (enc:=aD ab) (e:=1) (λ_=>rfl) (λ_=>rfl) 2 out x.day;rw[show aD ab x.day=[ab x.day] from rfl] at happ
   refine(az (F4 @du hfl hkc Su (show out.length<=1000000 by omega) @ap happ))<|(az (zi hlt hlenl)) ?_;refine zX hlt (bN (bz f1 f2)) trivial
def Iu:dm prog 108=some .ep:=by kernel_rfl
def Er(part:List Nat)(day:Int):nK:=⟨.fn 228 [] [.ip [ah part],.ip [ab day]],Es part day⟩
def G9(d:ea):nK:=⟨.fn 230 [] [.ip (bl d)],λe=>decide (e.op=6)&&decide (e.key=d.key)⟩
def yU(d:ea):nK:=⟨.fn 231 [] [.ip (bl d)],λe=>decide (e.op=d.after)⟩
def LC(part:List Nat)(day:Int):(Er part day).ok:=⟨_,_,rfl,rfl,λe=>NH e part day⟩
def PD(d:ea):(G9 d).ok:=⟨_,_,rfl,rfl,λe=>H7 e d⟩
def Mg(d:ea):(yU d).ok:=⟨_,_,rfl,rfl,λe=>HF e d⟩
def F8(a b:nK)(l:List aV):gQ [a,b] l=(l.filter λe=>a.p e&&b.p e).map aV.day:=by
 unfold gQ;refine rc _ (List.filter_congr λe _=>?_);unfold xd;cases h1:a.p e<;>cases h2:b.p e<;>simp[h1,h2]
def I0(d:ea)(l:List aV)(part:List Nat)(day:Int):gQ [Er part day,G9 d] l=wx d l part day:=F8 _ _ _
def F7(d:ea)(l:List aV)(part:List Nat)(day:Int):gQ [Er part day,yU d] l=nN d l part day:=F8 _ _ _
def tT(p:aV->Bool)(l:List aV):((l.filter p).map aV.day).length<=l.length:=by rw[List.length_map];exact List.length_filter_le _ _
def Kg(d:ea)(l:List aV)(part:List Nat)(day:Int)(hlen:l.length<=100000)(hw:0<=d.within/\d.within<=40000)(hbd:∀n∈nN d l part day,0<=n/\n<=40000):PC prog 147 [.ag (bl d),an 14 l ao,ah part,ab day] (·=.cq [ab (j7 d l part day).1,ak (j7 d l part day).2]):=by
 have hd1:=A7 l [Er part day,G9 d] hlen gc (by intro c hc;rcases t6 hc with rfl | hc;exact LC _ _;rw[rx hc];exact PD _);have hd2:=A7 l [Er part day,yU d] hlen gc (by intro c hc;rcases t6 hc with rfl | hc;exact LC _ _;rw[rx hc];exact Mg _);rw[I0] at hd1;rw[F7] at hd2;have hnl:(wx d l part day).length<=l.length:=tT _ _;have hbl:(nN d l part day).length<=l.length:=tT _ _;refine pB 57 Tryz.func147 ?_;unfold j7;generalize wx d l part day=notes at hd1 hnl ⊢;generalize nN d l part day=begins at hd2 hbl hbd ⊢
 have hlenb:begins.length<=1000000:=by omega
 refine(az @bl.eq_1) ?_;refine zZ [(1,an 14 l ao),(4,.ip (bl d)),(6,.ptr 1 0),(7,.ptr 2 0)] 0 rfl (gV (bz @an.eq_1 @bl.eq_1))<|zZ [(1,an 14 l ao),(4,.ip (bl d)),(6,.ip [ah part]),(7,.ptr 2 0)] 1 rfl (gV (bz @an.eq_1 @bl.eq_1))<|zZ [(1,an 14 l ao),(4,.ip (bl d)),(6,.ip [ah part]),(7,.ip [ab day])] 2 rfl (gV (bz @an.eq_1 @bl.eq_1))<|zA [(1,an 14 l ao),(4,.ip (bl d)),(6,.ip [ah part]),(7,.ip [ab day])] [] zH<|(zV)<|(fC (gh @Iu (show AV.ep.cells=[AV.ep] from rfl) @bf.eq_1 @fp.eq_1)) ?_;refine oZ [(22,an 1 [Er part day,G9 d] lD),(19,an 14 l ao),(10,.fn 228 [] [.ip [ah part],.ip [ab day]]),(1,an 14 l ao),(4,.ip (bl d))] 0 rfl ⟨.inr (.buf rfl (bm.refl rfl) (ap _)),zj⟩<|oA [(22,an 1 [Er part day,G9 d] lD),(19,an 14 l ao),(10,.fn 228 [] [.ip [ah part],.ip [ab day]]),(1,an 14 l ao),(4,.ip (bl d))] [] zH<|(zK hd1 (hfl:=.inr (bm.refl rfl)))<|(zR)<|(zV)<|(fC (gh @Iu (show AV.ep.cells=[AV.ep] from rfl) @bf.eq_1 @fp.eq_1)) ?_;refine oZ [(27,an 1 [Er part day,yU d] lD),(24,an 14 l ao),(10,.fn 228 [] [.ip [ah part],.ip [ab day]]),(1,an 14 l ao),(4,.ip (bl d)),(11,an 1 notes (aD ab)),(12,ab 0),(13,ak false)] 0 rfl ⟨.inr (.buf rfl (bm.refl rfl) (ap _)),zj⟩<|oA [(27,an 1 [Er part day,yU d] lD),(24,an 14 l ao),(10,.fn 228 [] [.ip [ah part],.ip [ab day]]),(1,an 14 l ao),(4,.ip (bl d)),(11,an 1 notes (aD ab)),(12,ab 0),(13,ak false)] [] zH<|(zK hd2 (hfl:=.inr (bm.refl rfl)))<|(zR)<|(zs) ?_;refine KG begins (λk (aa:Int×Bool)=>0<=aa.1/\aa=(begins.take k).foldl (q9 d notes) (0,false)) (λk aa=>[(4,.ip (bl d)),(11,an 1 notes (aD ab)),(12,ab aa.1),(13,ak aa.2),(28,an 1 begins (aD ab)),(29,ab begins.length),(30,ab k)]) (λk aa=>[]) ((0,false)) zH (by exact⟨Int.le_refl _,rfl⟩) ?_;intro k aa hk hall;refine zT begins k ?_ ?_;rintro rfl;rotate_left;intro x hx hlt;rotate_left
 ·refine(gE) ?_;obtain⟨_,haa⟩:=hall;rw[ba] at haa;rw[<-haa]
  exact(zV)<|kE [.tmp 8,.tmp 9]
 have hst:(begins.take (k+1)).foldl (q9 d notes) (0,false)=q9 d notes aa x:=by rw[c8 hx,b4,<-hall.2];rfl
 obtain⟨hx0,hx1⟩:=hbd x (bb hx);have hct:=xp (l:=notes) (λn=>decide (x<=n)&&decide (n<=x+d.within)) (fid:=232) (first:=[]) (cap:=[.ip [ab x],.ip (bl d)]) ii (λn _=>NC n x d ⟨hx0,hx1⟩ hw) ⟨rfl,rfl⟩;rw[q9] at hst;generalize (notes.any λn=>decide (x<=n)&&decide (n<=x+d.within))=met at hct hst
 refine(gO)<|(az (cL hlt (aQ (e:=1) (enc:=aD ab) (λ_=>rfl) hx) @aD.eq_1))<|zA [(4,.ip (bl d)),(11,an 1 notes (aD ab)),(12,ab aa.1),(13,ak aa.2),(15,.ptr 0 0),(28,an 1 begins (aD ab)),(29,ab begins.length),(30,ab k)] [.cells [ab x]] zH ?_;refine zZ [(4,.ip (bl d)),(11,an 1 notes (aD ab)),(12,ab aa.1),(13,ak aa.2),(15,.ip [ab x]),(28,an 1 begins (aD ab)),(29,ab begins.length),(30,ab k)] 0 rfl ⟨.inl rfl,.inl rfl,.inl rfl,.inl rfl,.inr (.ptr rfl (bm.refl rfl) (aS _)),zj⟩<|zA [(4,.ip (bl d)),(11,an 1 notes (aD ab)),(12,ab aa.1),(13,ak aa.2),(15,.ip [ab x]),(28,an 1 begins (aD ab)),(29,ab begins.length),(30,ab k)] [] zH<|(zC)<|(zK hct)<|(zR)<|(az (bz @bl.eq_1 (FC (P:=prog) (t:=3) (show -9223372036854775808<=x+d.within/\x+d.within<=9223372036854775807 from⟨by omega,by omega⟩)))) ?_
 cases met;rotate_left
 ·simp only[c1,Bool.false_and,cp,↓reduceIte] at hst
  refine(FA)<|(az (zi hlt hlenb)) ?_;refine yL hlt (aa) zH (⟨hall.1,hst.symm⟩)
 obtain⟨a,fd⟩:=aa;cases fd
 ·simp only[d6,cd,Bool.true_or,↓reduceIte] at hst
  refine(yi)<|(zV)<|(az (zi hlt hlenb)) ?_;refine yL hlt ((x+d.within,true)) zH (⟨by show 0<=x+d.within;omega,hst.symm⟩)
 simp only[d6,c1,cd,el] at hst;cases g1:decide (x+d.within<a)
 ·simp only[g1,cp,↓reduceIte] at hst
  refine(az g1)<|(zN)<|(az (zi hlt hlenb)) ?_;refine yL hlt ((a,true)) zH (⟨hall.1,hst.symm⟩)
 ·simp only[g1,↓reduceIte] at hst
  refine(az g1)<|(cB)<|(az (zi hlt hlenb)) ?_;refine yL hlt ((x+d.within,true)) zH (⟨by show 0<=x+d.within;omega,hst.symm⟩)
def qH(c:List aK):Nat->List aV->List ai->List ai×Int×Int
 | _,[],s=>(s,-1,0)
 | i,e::r,s=>if (aI c s e).2=0 then qH c (i+1) r (aI c s e).1 else ([],(i:Int),(aI c s e).2)
def L5{c:List aK}{dmg:bo}:∀(l:List aV) (i:Nat) (s:List ai),(qH c i l s).1=(su false c dmg l s).1/\(qH c i l s).2.2=(su false c dmg l s).2
 | [],_,_=>⟨rfl,rfl⟩
 | e::r,i,s=>by
  rw[qH,su];split
  ·rw[ut gc];exact L5 r (i+1) _
  ·exact⟨rfl,rfl⟩
def GV(lc:jP)(ok:Bool):SO:=.loop lc (cond ok .ready .done) (cond ok none (some .ret)) [(4,.ptr 1 0),(5,.ptr 2 0),(6,.ptr 3 0),(7,.ptr 4 0),(8,.ptr 5 0)]
def Aq(o:Nat)(lc:jP)(ok:Bool)(h:5<o):cI o (GV lc ok)=GV lc ok:=by
 have h1:¬1=o:=by omega
 have h2:¬2=o:=by omega
 have h3:¬3=o:=by omega
 have h4:¬4=o:=by omega
 have h5:¬5=o:=by omega
 simp[GV,cI,eU,bf,Ev.names,fp,h1,h2,h3,h4,h5]
def vS:Code->Option (Code×Code)
 | .seq a b=>match vS a with
  | some x=>some x
  | none=>vS b
 | .block _ c=>vS c
 | .rangeFunc _ _ a b=>some (a,b)
 | _=>none
def yj(lc:jP):Prop:=(prog.funcs[(226:Nat)]?.bind λfn=>fn.body.bind vS)=some (lc.a,lc.b)
abbrev Ei(lc:jP)(ps:List ai)(k:Nat):List SO:=[GV lc true,.cells [an 14 ([]:List ai) ae],.cells [ab 0],.cells [ab 0],.cells [an 14 ps ae],.cells [ab k]]
abbrev pR:Fm:=[(1000000,.ptr 0 0),(1000001,.ptr 1 0),(1000002,.ptr 2 0),(1000003,.ptr 3 0),(1000004,.ptr 4 0),(1000005,.ptr 5 0)]
def Tl:∀i,i<6->i∉([]:List Nat)->aP pR (1000000+i)=.ptr i 0:=by
 rintro(_ | _ | _ | _ | _ | _ | i) h _
 all_goals first
  | rfl
  | (exfalso;omega)
def Fv(c:List aK)(ev:List aV)(lc:jP)(hcd:yj lc)(hln:lc.n=30)(hlp:lc.ps=#[19,20])(hc:mS c)(hlen:ev.length<20)(hkm:∀e∈ev,lP e):
 SC prog 312 [.a (.fn (.yield lc.id) [] []),.ip [an 14 ev ao],.ip [an 3 c aq]] (Ei lc [] 0) [] (λr S'=>r=.cq []/\((qH c 0 ev []).2.2=0/\(qH c 0 ev []).2.1 = -1/\S'=Ei lc (qH c 0 ev []).1 ev.length\/(qH c 0 ev []).2.2≠0/\(qH c 0 ev []).1=[]/\∃ps k,S'=[GV lc false,.cells [an 14 ([]:List ai) ae],.cells [ab (qH c 0 ev []).2.1],.cells [ab (qH c 0 ev []).2.2],.cells [an 14 ps ae],.cells [ab k]])):=by
 refine SC.body (n:=33) dz func312 rfl rfl gt (W:=pR) rfl ?_;have hk6:=λok=>Aq 6 lc ok gt;have hk7:=λok=>Aq 7 lc ok gt;have hk8:=λok=>Aq 8 lc ok gt
 have hlen1:ev.length<=1000000:=by omega
 refine(zs) ?_;refine aE.r0 g9 (by simp only[dD,bY,an,aH,m7,m6,↓reduceIte,ad,af,am,ac,al,ar,aw,bP,↓hk6,an];first | done | rfl) ?_;refine(zs) ?_;refine aE.r0 g9 (by simp only[dD,bY,an,aH,m7,m6,↓reduceIte,ad,af,am,ac,al,ar,aw,bP,↓hk6,an];first | done | rfl) ?_;refine zA ((11,ab 0)::(0,.a (.fn (.yield lc.id) [] []))::(1,.ip [an 14 ev ao])::(2,.ip [an 3 c aq])::(4,.ptr 6 0)::(9,an 14 ev ao)::(10,ab ev.length)::pR) [GV lc true,.cells [an 14 ([]:List ai) ae],.cells [ab 0],.cells [ab 0],.cells [an 14 ([]:List ai) ae],.cells [ab 0],.cells [.a (.slice none 0 0 (some 0))]] zH ?_;refine aE.fg (Fg.Vn (S':=[GV lc true,.cells [an 14 ([]:List ai) ae],.cells [ab 0],.cells [ab 0],.cells [an 14 ([]:List ai) ae],.cells [ab 0],.cells [an 14 ([]:List ai) ae]]) ⟨.inr ⟨by simp,.inl rfl⟩,.inr ⟨by simp,.inl rfl⟩,.inr ⟨by simp,.inl rfl⟩,.inr ⟨by simp,.inl rfl⟩,.inr ⟨by simp,.inl rfl⟩,.inr ⟨by simp,.inl rfl⟩,.inr ⟨by simp,.inr ⟨_,_,rfl,rfl,.cons (.nil _) .nil⟩⟩,trivial⟩) ?_
 (try change aE _ _ _ _ _)
 refine(zs) ?_;refine KG ev (λk (ps:List ai)=>(qH c 0 ev []=qH c k (ev.drop k) ps/\(∀p∈ps,fJ p)/\ps.length<=k)) (λk ps=>(11,ab k)::(0,.a (.fn (.yield lc.id) [] []))::(1,.ip [an 14 ev ao])::(2,.ip [an 3 c aq])::(4,.ptr 6 0)::(9,an 14 ev ao)::(10,ab ev.length)::pR) (λk ps=>Ei lc ps k++[.cells [an 14 ps ae]]) ([]) zH (by exact⟨rfl,(λp hp=>by cases hp),ap _⟩) ?_;intro k ps hk hall;refine zT ev k ?_ ?_;rintro rfl;rotate_left;intro e hx hlt;rotate_left
 ·refine(zN) ?_;obtain⟨hr,_,_⟩:=hall;rw[List.drop_length] at hr;refine zA pR (Ei lc ps ev.length) zH ?_;refine aE.exit ?_
  (try simp only[e8,df,bW,bI,if_true])
  exact Md.of (rs:=[]) rfl rfl rfl ⟨rfl,.inl (by rw[hr];exact⟨rfl,rfl,rfl⟩)⟩ (ap _) Tl
 obtain⟨hr,hps,hpl⟩:=hall;rw[e9 hx] at hr;have heo:=hkm e (bb hx);have hap:=A5 c ps e hc ii hps heo;obtain⟨q1,q2,q3,q4⟩:=oR (c:=c) hps heo;rw[qH] at hr;obtain⟨nx,er,hne⟩:∃nx er,aI c ps e=(nx,er):=⟨_,_,rfl⟩;rw[hne] at hap q1 q2 q3 q4 hr;simp only at q1 q2 q3 q4 hr;rw[du] at hap
 refine(gO)<|(zs) ?_;refine aE.r0 g9 (by simp only[dD,bY,an,aH,m7,m6,↓reduceIte,ad,af,am,ac,al,ar,aw,bP,↓hk7,hlt,aQ (e:=14) (enc:=ao) (λ_=>rfl) hx,du];first | done | rfl) ?_;refine zZ ((6,.ip (eA e))::(11,ab k)::(0,.a (.fn (.yield lc.id) [] []))::(1,.ip [an 14 ev ao])::(2,.ip [an 3 c aq])::(4,.ptr 6 0)::(9,an 14 ev ao)::(10,ab ev.length)::pR) 7 rfl (gV @an.eq_1) ?_
 (try change aE _ _ _ _ _)
 refine(zC)<|(zK hap (hfl:=.inr (bm.refl rfl))) ?_;refine aR.r0 g9 (by simp only[dD,bY,an,aH,m7,m6,↓reduceIte,ad,af,am,ac,al,ar,aw,bP,kJ,↓hk7,↓hk8];first | done | rfl) ?_;refine zZ ((8,ab er)::(7,.ip [an 14 nx ae])::(11,ab k)::(0,.a (.fn (.yield lc.id) [] []))::(1,.ip [an 14 ev ao])::(2,.ip [an 3 c aq])::(4,.ptr 6 0)::(9,an 14 ev ao)::(10,ab ev.length)::pR) 8 rfl ⟨.inl rfl,.inr (.ptr rfl (bm.refl rfl) (aS _)),zj⟩<|zA ((8,ab er)::(7,.ip [an 14 nx ae])::(11,ab k)::(0,.a (.fn (.yield lc.id) [] []))::(1,.ip [an 14 ev ao])::(2,.ip [an 3 c aq])::(4,.ptr 6 0)::(9,an 14 ev ao)::(10,ab ev.length)::pR) (Ei lc ps k++[.cells [an 14 ps ae]]) zH<|(zC)<|oA ((22,.a (.fn (.yield lc.id) [] []))::(23,.ag [an 14 nx ae])::(24,ab er)::(8,ab er)::(7,.ip [an 14 nx ae])::(11,ab k)::(0,.a (.fn (.yield lc.id) [] []))::(1,.ip [an 14 ev ao])::(2,.ip [an 3 c aq])::(4,.ptr 6 0)::(9,an 14 ev ao)::(10,ab ev.length)::pR) (Ei lc ps k++[.cells [an 14 ps ae]]) zH ?_;refine aR.y (vs:=[.ag [an 14 nx ae],ab er]) (oo:=0) g9 rfl rfl g9 rfl rfl rfl g9 rfl (by rw[hlp];rfl) (by rw[hln];rfl) (by rw[hln];decide) (by rw[hlp,hln];rfl) λro'=>?_
 have hcd2:=hcd;unfold yj at hcd2;rw[dc] at hcd2;have hcd3:=Option.some.inj (hcd2.symm.trans g9);obtain⟨ha,hbb⟩:=Prod.mk.inj hcd3;rw[ha,hlp,hln];change aE _ _ _ ⟨(20,ab er)::(19,.ag [an 14 nx ae])::(4,.ptr 1 0)::(5,.ptr 2 0)::(6,.ptr 3 0)::(7,.ptr 4 0)::(8,.ptr 5 0)::(20000022,.a (.fn (.yield lc.id) [] []))::(20000023,.ag [an 14 nx ae])::(20000024,ab er)::(20000008,ab er)::(20000007,.ip [an 14 nx ae])::(20000011,ab k)::(20000000,.a (.fn (.yield lc.id) [] []))::(20000001,.ip [an 14 ev ao])::(20000002,.ip [an 3 c aq])::(20000004,.ptr 6 0)::(20000009,an 14 ev ao)::(20000010,ab ev.length)::[(21000000,.ptr 0 0),(21000001,.ptr 1 0),(21000002,.ptr 2 0),(21000003,.ptr 3 0),(21000004,.ptr 4 0),(21000005,.ptr 5 0)],30,[GV lc true,.cells [an 14 ([]:List ai) ae],.cells [ab 0],.cells [ab 0],.cells [an 14 ps ae],.cells [ab k],.cells [an 14 ps ae]],[]⟩ _
 refine zA ((20,ab er)::(19,.ag [an 14 nx ae])::(4,.ptr 1 0)::(5,.ptr 2 0)::(6,.ptr 3 0)::(7,.ptr 4 0)::(8,.ptr 5 0)::(20000008,ab er)::(20000007,.ip [an 14 nx ae])::(20000011,ab k)::(20000000,.a (.fn (.yield lc.id) [] []))::(20000001,.ip [an 14 ev ao])::(20000002,.ip [an 3 c aq])::(20000004,.ptr 6 0)::(20000009,an 14 ev ao)::(20000010,ab ev.length)::[(21000000,.ptr 0 0),(21000001,.ptr 1 0),(21000002,.ptr 2 0),(21000003,.ptr 3 0),(21000004,.ptr 4 0),(21000005,.ptr 5 0)]) [GV lc true,.cells [an 14 ([]:List ai) ae],.cells [ab 0],.cells [ab 0],.cells [an 14 ps ae],.cells [ab k],.cells [an 14 ps ae]] zH<|(zs) ?_;refine aE.r0 g9 (by simp only[dD,bY,an,aH,m7,m6,↓reduceIte,ad,af,am,ac,al,ar,aw,bP,↓hk7];first | done | rfl) ?_;refine(zs) ?_;refine aE.r0 g9 (by simp only[dD,bY,an,aH,m7,m6,↓reduceIte,ad,af,am,ac,al,ar,aw,bP,↓hk7];first | done | rfl) ?_;refine⟨rfl,0,none,[(4,.ptr 1 0),(5,.ptr 2 0),(6,.ptr 3 0),(7,.ptr 4 0),(8,.ptr 5 0)],rfl,?_⟩
 rw[hbb];change aE _ _ _ ⟨_,30,[.loop lc .busy none [(4,.ptr 1 0),(5,.ptr 2 0),(6,.ptr 3 0),(7,.ptr 4 0),(8,.ptr 5 0)],.cells [an 14 ([]:List ai) ae],.cells [ab 0],.cells [ab 0],.cells [an 14 ps ae],.cells [ab k],.cells [an 14 ps ae],.cells [an 14 nx ae]],[]⟩ _;refine(zB) ?_;by_cases herr:er=0
 ·rw[un herr] at hr;subst herr
  refine(FA)<|(zV)<|(az (FC (show -9223372036854775808<=(k:Int)+1/\(k:Int)+1<=9223372036854775807 from⟨by omega,by omega⟩))) ?_;refine⟨rfl,0,.busy,none,[(4,.ptr 1 0),(5,.ptr 2 0),(6,.ptr 3 0),(7,.ptr 4 0),(8,.ptr 5 0)],rfl,?_⟩
  simp only[zf,laid,ac,ay,↓reduceIte]
  refine oA ((25,ak true)::(8,ab 0)::(7,.ip [an 14 nx ae])::(11,ab k)::(0,.a (.fn (.yield lc.id) [] []))::(1,.ip [an 14 ev ao])::(2,.ip [an 3 c aq])::(4,.ptr 6 0)::(9,an 14 ev ao)::(10,ab ev.length)::pR) (Ei lc nx (k+1)++[.cells [an 14 ps ae]]) (bN (lB @Bx.eq_1 @Bw.eq_1 @zk.eq_1 @zf.eq_1 @GV.eq_1))<|(zR)<|(ly)<|(az (zi hlt hlen1)) ?_;refine yL hlt (nx) zH (⟨hr,q1,by omega⟩)
 rw[ut herr] at hr
 refine(az (wd herr))<|(zY)<|zA ((10,ab er)::(4,.ptr 1 0)::(5,.ptr 2 0)::(6,.ptr 3 0)::(7,.ptr 4 0)::(8,.ptr 5 0)::(20000008,ab er)::(20000007,.ip [an 14 nx ae])::(20000011,ab k)::(20000000,.a (.fn (.yield lc.id) [] []))::(20000001,.ip [an 14 ev ao])::(20000002,.ip [an 3 c aq])::(20000004,.ptr 6 0)::(20000009,an 14 ev ao)::(20000010,ab ev.length)::[(21000000,.ptr 0 0),(21000001,.ptr 1 0),(21000002,.ptr 2 0),(21000003,.ptr 3 0),(21000004,.ptr 4 0),(21000005,.ptr 5 0)]) [.loop lc .busy none [(4,.ptr 1 0),(5,.ptr 2 0),(6,.ptr 3 0),(7,.ptr 4 0),(8,.ptr 5 0)],.cells [an 14 ([]:List ai) ae],.cells [ab 0],.cells [ab 0],.cells [an 14 ps ae],.cells [ab k],.cells [an 14 ps ae]] zH ?_;refine aE.fg (Fg.Vn (S':=[.loop lc .busy none [(4,.ptr 1 0),(5,.ptr 2 0),(6,.ptr 3 0),(7,.ptr 4 0),(8,.ptr 5 0)],.cells [.any],.cells [.any],.cells [ab 0],.cells [an 14 ps ae],.cells [ab k],.cells [an 14 ps ae]]) ⟨.inr ⟨by simp,.inl rfl⟩,.inr ⟨by simp,.inr ⟨_,_,rfl,rfl,.cons (.any _) .nil⟩⟩,.inr ⟨by simp,.inr ⟨_,_,rfl,rfl,.cons (.any _) .nil⟩⟩,.inr ⟨by simp,.inl rfl⟩,.inr ⟨by simp,.inl rfl⟩,.inr ⟨by simp,.inl rfl⟩,.inr ⟨by simp,.inl rfl⟩,trivial⟩) ?_
 (try change aE _ _ _ _ _)
 (repeat refine aE.seq ?_)
 have hv0:∀(i:Nat) (v:SV),vo (λ_=>False) i v=.any:=λi v=>nF λh=>h;have hv5:∀(i:Nat),i<5->∀v:SV,vo (λj=>j<5) i v=v:=λi h v=>cg h;refine aE.xm 5 8 (λL=>⟨(23,vo L 0 (.ag [bF]))::(24,vo L 1 (ab k))::(25,vo L 2 (ab er))::(10,ab er)::(4,.ptr 1 0)::(5,.ptr 2 0)::(6,.ptr 3 0)::(7,.ptr 4 0)::(8,.ptr 5 0)::(20000008,ab er)::(20000007,.ip [an 14 nx ae])::(20000011,ab k)::(20000000,.a (.fn (.yield lc.id) [] []))::(20000001,.ip [an 14 ev ao])::(20000002,.ip [an 3 c aq])::(20000004,.ptr 6 0)::(20000009,an 14 ev ao)::(20000010,ab ev.length)::[(21000000,.ptr 0 0),(21000001,.ptr 1 0),(21000002,.ptr 2 0),(21000003,.ptr 3 0),(21000004,.ptr 4 0),(21000005,.ptr 5 0)],30,[.loop lc .busy none [(4,.ptr 1 0),(5,.ptr 2 0),(6,.ptr 3 0),(7,.ptr 4 0),(8,.ptr 5 0)],.cells [vo L 3 bF],.cells [vo L 4 (ab k)],.cells [ab 0],.cells [an 14 ps ae],.cells [ab k],.cells [an 14 ps ae]],[]⟩) rfl zW g9 gt zW (bN hv0) (λL=>rfl) ?_ ?_
 ·rintro L i o him hC hr
  rcases i with _ | _ | _ | _ | _ | i
  rotate_right
  ·exact ul him ii
  ·cases hr.gX;refine(zR) ?_;exact(bN @aZ)
  ·cases hr.gX;refine(zR) ?_;exact(bN @aZ)
  ·cases hr.gX;refine(zR) ?_;exact(bN @aZ)
  ·cases hr.gX;have d0:L 0:=hr.dep ⟨0,.data⟩ gc rfl;refine(cH (fH d0)) ?_;exact(bN (bz @aZ (fH d0)))
  ·cases hr.gX;have d1:L 1:=hr.dep ⟨1,.data⟩ gc rfl;refine(cH (fH d1)) ?_;exact(bN (bz @aZ (fH d1)))
 change aR _ _ _ _ _ _
 refine oA ((25,ab er)::(6,.ptr 3 0)::(4,.ptr 1 0)::(5,.ptr 2 0)::(7,.ptr 4 0)::(8,.ptr 5 0)::(20000008,ab er)::(20000007,.ip [an 14 nx ae])::(20000011,ab k)::(20000000,.a (.fn (.yield lc.id) [] []))::(20000001,.ip [an 14 ev ao])::(20000002,.ip [an 3 c aq])::(20000004,.ptr 6 0)::(20000009,an 14 ev ao)::(20000010,ab ev.length)::[(21000000,.ptr 0 0),(21000001,.ptr 1 0),(21000002,.ptr 2 0),(21000003,.ptr 3 0),(21000004,.ptr 4 0),(21000005,.ptr 5 0)]) [.loop lc .busy none [(4,.ptr 1 0),(5,.ptr 2 0),(6,.ptr 3 0),(7,.ptr 4 0),(8,.ptr 5 0)],.cells [bF],.cells [ab k],.cells [ab 0],.cells [an 14 ps ae],.cells [ab k],.cells [an 14 ps ae]] (bN (cL (hv5 2 gt) (hv5 3 gt) (hv5 4 gt)))<|(zR) ?_;refine aE.ret ?_
 (try simp only[e8,df,bW,bI])
 refine⟨trivial,0,.busy,none,[(4,.ptr 1 0),(5,.ptr 2 0),(6,.ptr 3 0),(7,.ptr 4 0),(8,.ptr 5 0)],rfl,?_⟩;simp only[zf,laid,ac,ay,↓reduceIte]
 refine oA ((25,ak false)::(8,ab er)::(7,.ip [an 14 nx ae])::(11,ab k)::(0,.a (.fn (.yield lc.id) [] []))::(1,.ip [an 14 ev ao])::(2,.ip [an 3 c aq])::(4,.ptr 6 0)::(9,an 14 ev ao)::(10,ab ev.length)::pR) [GV lc false,.cells [bF],.cells [ab k],.cells [ab er],.cells [an 14 ps ae],.cells [ab k],.cells [an 14 ps ae]] (bN (lB @Bx.eq_1 @Bw.eq_1 @zk.eq_1 @zf.eq_1 @GV.eq_1))<|(zR)<|(zY)<|zA pR [GV lc false,.cells [bF],.cells [ab k],.cells [ab er],.cells [an 14 ps ae],.cells [ab k]] zH ?_;refine aE.fg (Fg.Vn (S':=[GV lc false,.cells [an 14 ([]:List ai) ae],.cells [ab k],.cells [ab er],.cells [an 14 ps ae],.cells [ab k]]) ⟨.inr ⟨by simp,.inl rfl⟩,.inr ⟨by simp,.inr ⟨_,_,rfl,rfl,.cons (.nil _) .nil⟩⟩,.inr ⟨by simp,.inl rfl⟩,.inr ⟨by simp,.inl rfl⟩,.inr ⟨by simp,.inl rfl⟩,.inr ⟨by simp,.inl rfl⟩,trivial⟩) ?_;refine aE.ret ?_
 (try simp only[e8,df,bW,bI])
 exact Md.of (rs:=[]) rfl rfl rfl ⟨rfl,.inr (by rw[hr];exact⟨herr,rfl,ps,k,rfl⟩)⟩ (ap _) Tl
def Fw(c:List aK)(ev:List aV):PC prog 281 [.ag [an 3 c aq],an 14 ev ao] (·=.fn 312 [] [.ip [an 14 ev ao],.ip [an 3 c aq]]):=by
 refine pB 6 Tryz.func281 ?_;refine(zV) ?_;exact zZ [(2,.ip [an 3 c aq]),(3,.ptr 1 0)] 0 rfl (gV @an.eq_1)<|zZ [(2,.ip [an 3 c aq]),(3,.ip [an 14 ev ao])] 1 rfl (gV @an.eq_1)<|zA [(2,.ip [an 3 c aq]),(3,.ip [an 14 ev ao])] [] zH<|(zV)<|zo [.tmp 4]
def rm(r:List ai×Int×Int):SV:=.cq [.ag [an 14 r.1 ae],ab r.2.1,ab r.2.2]
def BN(c:List aK)(l:List aV):List ai×Int×Int:=if ox c=true then qH c 0 (dY l) [] else ([],-1,1)
def Q6.VW{P:Program}{fn:Func}{Q:SV->Prop}{e:Ex}{st:eR}(h:Cb P fn Q e st):Q6 P fn Q e st:=by
 obtain⟨he,hd,h⟩:=h;refine⟨he,?_⟩;rw[hd];exact h
def NK(c:List aK)(l:List aV)(hc:mS c)(hlen:l.length<20)(hl:∀e∈l,lP e):PC prog 226 [.ag [an 3 c aq],an 14 l ao] (·=rm (BN c l)):=by
 refine PC.tQ (n:=30) dz dc rfl rfl gt ?_;refine(zV) ?_;refine zZ [(1,an 14 l ao),(2,.ip [an 3 c aq]),(4,.ptr 1 0),(5,.ptr 2 0),(6,.ptr 3 0)] 0 rfl (gV @an.eq_1)<|zA [(1,an 14 l ao),(2,.ip [an 3 c aq]),(4,.ptr 1 0),(5,.ptr 2 0),(6,.ptr 3 0)] [.gone,.cells [.a (.slice none 0 0 (some 0))],.cells [ab 0],.cells [ab 0]] zH ?_;refine aE.fg (Fg.rn (f':=[(1,an 14 l ao),(2,.ip [an 3 c aq]),(4,.ptr 0 0),(5,.ptr 1 0),(6,.ptr 2 0)]) (n:=30) (S':=[.cells [.a (.slice none 0 0 (some 0))],.cells [ab 0],.cells [ab 0]]) [1,2,3] gt rfl (by (simp only[qX,gJ,bY,an,br (aA bO l)])<;>(repeat' apply be)<;>first | trivial | exact .inl rfl | exact .inr rfl | exact .inr trivial | exact .inl trivial) (by (simp only[dD,gJ,bY,an,br (aA bO l)])<;>(repeat' apply be)<;>first | rfl | trivial)) ?_
 (try change aE _ _ _ _ _)
 unfold BN;cases h1:ox c
 ·have hv:=oi c hc;rw[h1] at hv
  refine(zC)<|(zK hv)<|(zR)<|(cB) ?_;refine aE.ret ?_
  (try simp only[e8,df,bW,bI])
  refine Q6.VW ?_;exact zO [.cell 4 46,.cell 5 3,.cell 6 47] (r:=.cq [.ag [.sl 0 14 []],ab (-1),ab 1]) (hw:=zv)
 have hv:=oi c hc;rw[h1] at hv
 refine(zC)<|(zK hv)<|(zR)<|(ly)<|(zV)<|zA [(1,an 14 l ao),(2,.ip [an 3 c aq]),(4,.ptr 0 0),(5,.ptr 1 0),(6,.ptr 2 0),(7,.ptr 3 0),(8,.ptr 4 0)] [.cells [.a (.slice none 0 0 (some 0))],.cells [ab 0],.cells [ab 0],.cells [.a (.slice none 0 0 (some 0))],.cells [ab 0]] zH ?_;refine aE.fg (Fg.Vn (S':=[.cells [an 14 ([]:List ai) ae],.cells [ab 0],.cells [ab 0],.cells [an 14 ([]:List ai) ae],.cells [ab 0]]) ⟨.inr ⟨by simp,.inr ⟨_,_,rfl,rfl,.cons (.nil _) .nil⟩⟩,.inr ⟨by simp,.inl rfl⟩,.inr ⟨by simp,.inl rfl⟩,.inr ⟨by simp,.inr ⟨_,_,rfl,rfl,.cons (.nil _) .nil⟩⟩,.inr ⟨by simp,.inl rfl⟩,trivial⟩) ?_
 (try change aE _ _ _ _ _)
 have hkm:∀e∈dY l,lP e:=λe he=>hl e ((vY _ _).mem_iff.1 he)
 have hsl:(dY l).length<20:=by rw[dY,Ae];exact hlen
 have hso:=xI l hlen;generalize dY l=ev at hkm hsl hso ⊢;rw[un rfl];have hv0:∀(i:Nat) (v:SV),vo (λ_=>False) i v=.any:=λi v=>nF λh=>h;have hv3:∀(i:Nat),i<3->∀v:SV,vo (λj=>j<3) i v=v:=λi h v=>cg h
 (repeat refine aE.seq ?_)
 refine aE.xm 3 6 (λL=>⟨(15,vo L 0 (.ag [an 3 c aq]))::(16,vo L 1 (an 14 l ao))::(17,vo L 2 (an 14 ev ao))::(1,an 14 l ao)::(2,.ip [an 3 c aq])::[(4,.ptr 0 0),(5,.ptr 1 0),(6,.ptr 2 0),(7,.ptr 3 0),(8,.ptr 4 0)],30,[.cells [an 14 ([]:List ai) ae],.cells [ab 0],.cells [ab 0],.cells [an 14 ([]:List ai) ae],.cells [ab 0]],[]⟩) rfl zW g9 gt zW (bN hv0) (λL=>rfl) ?_ ?_
 ·rintro L i o him hC hr
  rcases i with _ | _ | _ | i
  rotate_right
  ·exact ul him ii
  ·cases hr.gX;refine(zR) ?_;exact(bN @aZ)
  ·cases hr.gX;refine(zR) ?_;exact(bN @aZ)
  ·cases hr.gX;have d1:L 1:=hr.dep ⟨1,.data⟩ gc rfl;refine(zK hso (hc:=IH (fH d1)) (hfl:=.inr (bm.refl rfl))) ?_;refine .nil ?_;exact(bN (bz @aZ (fH d1)))
 change aR _ _ _ _ _ _
 refine oA ((15,.ag [an 3 c aq])::(17,an 14 ev ao)::[(4,.ptr 0 0),(5,.ptr 1 0),(6,.ptr 2 0),(7,.ptr 3 0),(8,.ptr 4 0)]) [.cells [an 14 ([]:List ai) ae],.cells [ab 0],.cells [ab 0],.cells [an 14 ([]:List ai) ae],.cells [ab 0]] (bN (bz (hv3 0 gt) (hv3 2 gt)))<|(zK (Fw c ev) (hfl:=.inr (bm.refl rfl))) ?_;refine .nil ?_
 change aE _ _ _ _ _;refine zA ((18,.fn 312 [] [.ip [an 14 ev ao],.ip [an 3 c aq]])::[(4,.ptr 0 0),(5,.ptr 1 0),(6,.ptr 2 0),(7,.ptr 3 0),(8,.ptr 4 0)]) [.cells [an 14 ([]:List ai) ae],.cells [ab 0],.cells [ab 0],.cells [an 14 ([]:List ai) ae],.cells [ab 0]] zH ?_;refine aE.block ?_;refine aE.uL (f1:=[(4,.ptr 0 0),(5,.ptr 1 0),(6,.ptr 2 0),(7,.ptr 3 0),(8,.ptr 4 0)]) dz g9 func312 g9 Wh ?_;rintro N lc hid hn hps ha hb
 have hcd:yj lc:=by
  unfold yj;rw[dc,ha,hb];rfl
 have hsc:=Fv c ev lc hcd hn hps hc hsl hkm;generalize qH c 0 ev []=q at hsc ⊢;refine⟨[6,0,1,2,3,4],_,_,_,_,hsc,?_,rfl,by decide,?_,?_⟩
 ·simp only[gJ,bY,dD,an,eU,bf,↓reduceIte,ad,af,ay,hid,List.map,d7,cons_append,nil_append]
  try rfl
 ·rintro(_ | _ | _ | _ | _ | _ | i) so h
  ·cases h;exact⟨6,rfl,by rfl⟩
  ·cases h;exact⟨0,rfl,by rfl⟩
  ·cases h;exact⟨1,rfl,by rfl⟩
  ·cases h;exact⟨2,rfl,by rfl⟩
  ·cases h;exact⟨3,rfl,by rfl⟩
  ·cases h;exact⟨4,rfl,by rfl⟩
  ·cases h
 rintro r S' ⟨rfl,hS'⟩;have hbq:∀(B:Nat) (l:List ai),dG B (an 14 l ae)=true:=λB l=>gF rfl
 rcases hS' with⟨hq0,hq1,rfl⟩ | ⟨hq0,hq1,ps,k,rfl⟩
 ·refine⟨by simp only[Ei,GV,C5,gJ,bY,an,af,al,decide_true,↓hbq];first | done | rfl,6,.ready,none,[(4,.ptr 0 0),(5,.ptr 1 0),(6,.ptr 2 0),(7,.ptr 3 0),(8,.ptr 4 0)],by rfl,by decide,by rfl,?_⟩
  have hS2:(dP (gy (gy [.cells [an 14 ([]:List ai) ae],.cells [ab 0],.cells [ab 0],.cells [an 14 ([]:List ai) ae],.cells [ab 0]] (SO.nd N)) (SO.loop lc .ready none [(4,.ptr 0 0),(5,.ptr 1 0),(6,.ptr 2 0),(7,.ptr 3 0),(8,.ptr 4 0)])) [6,0,1,2,3,4] [] (Ei lc q.1 ev.length)).set 6 .gone=[.cells [an 14 ([]:List ai) ae],.cells [ab 0],.cells [ab 0],.cells [an 14 q.1 ae],.cells [ab ev.length],.nd N,.gone]:=by
   have hrq:∀(r:Nat->Nat),nr r (q.1.flatMap ae)=q.1.flatMap ae:=λr=>br (aA dw q.1);simp only[dP,gy,eC,dg,gw,gU,i7,i5,List.map,aj,li];rfl
  rw[hS2];change aE _ _ _ ⟨[(4,.ptr 0 0),(5,.ptr 1 0),(6,.ptr 2 0),(7,.ptr 3 0),(8,.ptr 4 0)],30,_,[{ fn:=none,FU:=N,args:=[],cap:=[] }]⟩ _;refine(zV) ?_;refine aE.ret ?_
  (try simp only[e8,df,bW,bI])
  exact⟨rfl,[(4,.ptr 0 0),(5,.ptr 1 0),(6,.ptr 2 0)],⟨rfl,rfl,rfl,trivial⟩,rfl,.inl ⟨rfl,5,rfl,[.ag [an 14 q.1 ae],ab (-1),ab 0],.cq [.ag [an 14 q.1 ae],ab (-1),ab 0],by rfl,.cq (.cons (.ag (bm.refl rfl)) (.cons (.a _) (.cons (.a _) .nil))),by rw[rm,hq0,hq1]⟩⟩
 ·have hS2:(dP (gy (gy [.cells [an 14 ([]:List ai) ae],.cells [ab 0],.cells [ab 0],.cells [an 14 ([]:List ai) ae],.cells [ab 0]] (SO.nd N)) (SO.loop lc .ready none [(4,.ptr 0 0),(5,.ptr 1 0),(6,.ptr 2 0),(7,.ptr 3 0),(8,.ptr 4 0)])) [6,0,1,2,3,4] [] [GV lc false,.cells [an 14 ([]:List ai) ae],.cells [ab q.2.1],.cells [ab q.2.2],.cells [an 14 ps ae],.cells [ab k]]).set 6 .gone=[.cells [an 14 ([]:List ai) ae],.cells [ab q.2.1],.cells [ab q.2.2],.cells [an 14 ps ae],.cells [ab k],.nd N,.gone]:=by
   simp only[dP,gy,eC,dg,gw,gU,i7,i5,List.map,aj,li];rfl
  refine⟨by simp only[GV,C5,gJ,bY,an,af,al,decide_true,↓hbq];first | done | rfl,6,.done,some .ret,[(4,.ptr 0 0),(5,.ptr 1 0),(6,.ptr 2 0),(7,.ptr 3 0),(8,.ptr 4 0)],by rfl,by decide,by rfl,?_⟩;rw[hS2];change aE _ _ _ ⟨[(4,.ptr 0 0),(5,.ptr 1 0),(6,.ptr 2 0),(7,.ptr 3 0),(8,.ptr 4 0)],30,_,[{ fn:=none,FU:=N,args:=[],cap:=[] }]⟩ _;refine aE.ret ?_
  (try simp only[e8,df,bW,bI])
  exact⟨rfl,[(4,.ptr 0 0),(5,.ptr 1 0),(6,.ptr 2 0)],⟨rfl,rfl,rfl,trivial⟩,rfl,.inl ⟨rfl,5,rfl,[.ag [an 14 ([]:List ai) ae],ab q.2.1,ab q.2.2],.cq [.ag [an 14 ([]:List ai) ae],ab q.2.1,ab q.2.2],by rfl,.cq (.cons (.ag (bm.refl rfl)) (.cons (.a _) (.cons (.a _) .nil))),by rw[rm,hq1]⟩⟩
def xw(e:aV)(day:Int):PC prog 227 [.ag (ao e),.ip [ab day]] (·=ak (dK day e)):=by
 refine pB 8 Tryz.func227 ?_;exact(az @du)<|(zV)<|zo [.tmp 3]
def mL(a b:Nat)(L:Nat->Prop):Nat->Prop:=λ_=>L a/\¬L b
def qi{a b i:Nat}{L:Nat->Prop}(ha:a≠i)(hb:b≠i):mL a b (λj=>L j\/j=i)=mL a b L:=by
 funext x;unfold mL;simp[ha,hb]
def Ti{a b:Nat}{L:Nat->Prop}(h1:¬L b)(hab:b≠a):mL a b (λj=>L j\/j=a) 0:=⟨.inr rfl,λh=>h.elim h1 hab⟩
def Ps{a b:Nat}{L:Nat->Prop}:¬mL a b (λj=>L j\/j=b) 0:=λh=>h.2 (.inr rfl)
def RR{a b:Nat}{L:Nat->Prop}(h:¬L a):¬mL a b L 0:=λk=>h k.1
def QB(c:List aK)(l:List aV)(day:Int)(hc:mS c)(hlen:l.length<20)(hl:∀e∈l,lP e):PC prog 145 [.ag [an 3 c aq],an 14 l ao,ab day] (·=rm (BN c (db (dK day) l))):=by
 refine pB 18 Tryz.func145 ?_;refine(zV) ?_;refine zZ [(1,an 14 l ao),(3,.ip [an 3 c aq]),(5,.ptr 1 0),(6,.ptr 2 0)] 0 rfl (gV @an.eq_1) ?_;refine aE.fg (Fg.rn (f':=(5,.ptr 0 0)::(6,.ptr 1 0)::(1,an 14 l ao)::[(3,.ip [an 3 c aq])]) (n:=18) (S':=[.cells [ab day],.cells [.a (.slice none 0 0 (some 0))]]) [1,2] gt rfl (by (simp only[qX,gJ,bY,an,br (aA bO l)])<;>(repeat' apply be)<;>first | trivial | exact .inl rfl | exact .inr rfl | exact .inr trivial | exact .inl trivial) (by (simp only[dD,gJ,bY,an,br (aA bO l)])<;>(repeat' apply be)<;>first | rfl | trivial)) ?_
 (try change aE _ _ _ _ _)
 obtain⟨kp,hkp⟩:∃kp,kp=db (dK day) l:=⟨_,rfl⟩
 have hkl:kp.length<=l.length:=by rw[hkp];exact GD _ _
 have hkm:∀e∈kp,lP e:=λe he=>hl e (by rw[hkp] at he;exact(mem_filter.1 he).1);have hrun:=NK c kp hc ii hkm;rw[<-hkp];generalize BN c kp=q at hrun ⊢;have hv0:∀(i:Nat) (v:SV),vo (λ_=>False) i v=.any:=λi v=>nF λh=>h;have hv9:∀(i:Nat),i<9->∀v:SV,vo (λj=>j<9) i v=v:=λi h v=>cg h;have hnq:∀(o:Nat) (L:Nat->Prop) (i:Nat),Ev.names o (vo L i (rm q))=false:=λo L i=>cr o L i _ rfl
 (repeat refine aE.seq ?_)
 by_cases hne:l=[]
 ·subst hne;have hk0:kp=[]:=hkp;subst hk0;refine aE.xm 9 14 (λL=>⟨(9,vo L 0 (.ag [an 3 c aq]))::(10,vo L 1 (an 14 ([]:List aV) ao))::(11,vo L 2 (.e0 14))::(12,vo L 3 (.fn 227 [] [.ptr 0 0]))::(13,vo L 4 (.e0 14))::(14,vo L 5 (rm q))::(15,vo L 6 (.ag [an 14 q.1 ae]))::(16,vo L 7 (ab q.2.1))::(17,vo L 8 (ab q.2.2))::(5,.ptr 0 0)::(6,.ptr 1 0)::(1,an 14 ([]:List aV) ao)::[(3,.ip [an 3 c aq])],18,[.cells [ab day],.cells [.a (.slice none 0 0 (some 0))]],[]⟩) rfl zW g9 gt zW (bN hv0) (λL=>rfl) ?_ ?_
  ·rintro L i o him hC hr
   rcases i with _ | _ | _ | _ | _ | _ | _ | _ | _ | i
   rotate_right
   ·exact ul him ii
   ·cases hr.gX;refine(zR) ?_;exact(bN @aZ)
   ·cases hr.gX;refine(zR) ?_;exact(bN @aZ)
   ·cases hr.gX;have d1:L 1:=hr.dep ⟨1,.data⟩ gc rfl;refine zS [] @cr sI ?_ (hc:=IH (fH d1));refine .nil ?_;exact(bN (bz @aZ (fH d1)))
   ·cases hr.gX;refine(zR) ?_;exact(bN @aZ)
   ·cases hr.gX;have d2:L 2:=hr.dep ⟨2,.data⟩ gc rfl;have d3:L 3:=hr.dep ⟨3,.data⟩ gc rfl;refine zS [0] @cr (A8 227 [ab day] rfl (dK day) (λx=>xw x day)) ?_ (hc:=IH (bz (fH d2) (fH d3)));refine .nil ?_;exact(bN (cL @aZ (fH d2) (fH d3)))
   ·cases hr.gX;have d0:L 0:=hr.dep ⟨0,.data⟩ gc rfl;have d4:L 4:=hr.dep ⟨4,.data⟩ gc rfl;refine(zK hrun (hc:=IH (bz (fH d0) (fH d4))) (hwk:=.cons (.ag (bm.refl rfl)) (.cons (.US 14) .nil)) (hfl:=.inr (.cons (.ag (bm.refl rfl)) (.cons (.US 14) .nil)))) ?_;refine .nil ?_;exact(bN (cL @aZ (fH d0) (fH d4)))
   ·cases hr.gX;have d5:L 5:=hr.dep ⟨5,.data⟩ gc rfl;refine(cH (bz (fH d5) @rm.eq_1)) ?_;exact(bN (bz @aZ (fH d5)))
   ·cases hr.gX;have d5:L 5:=hr.dep ⟨5,.data⟩ gc rfl;refine(cH (bz (fH d5) @rm.eq_1)) ?_;exact(bN (bz @aZ (fH d5)))
   ·cases hr.gX;have d5:L 5:=hr.dep ⟨5,.data⟩ gc rfl;refine(cH (bz (fH d5) @rm.eq_1)) ?_;exact(bN (bz @aZ (fH d5)))
  ·change aR _ _ _ _ _ _
   refine oA [(15,.ag [an 14 q.1 ae]),(16,ab q.2.1),(17,ab q.2.2),(6,.ptr 1 0)] [.cells [ab day],.cells [.a (.slice none 0 0 (some 0))]] (bN (cL (hv9 6 gt) (hv9 7 gt) (hv9 8 gt)))<|(zR) ?_
   change aR _ _ _ _ _ _;refine(zR) ?_;change aR _ _ _ _ _ _
   refine(zR)<|(zE) ?_;exact zO [.cell 6 46,.tmp 7,.tmp 8] (r:=.cq [.ag [an 14 q.1 ae],ab q.2.1,ab q.2.2]) (hw:=zv)
 ·have hne0:¬l.length=0:=λh=>hne (t7 h);have hrq:∀(r:Nat->Nat) (q:List aV),nr r (q.flatMap ao)=q.flatMap ao:=λr q=>br (aA bO q);have hbq:∀(B:Nat) (q:List aV),je B (q.flatMap ao)=true:=λB q=>bK (aA bO q);have hkq:=bC bO;have hcl:=sJ l ii hne;have hdel:=A9 227 [ab day] rfl (dK day) (λx=>xw x day) l ii;rw[<-hkp] at hdel;obtain⟨w,hw⟩:∃w,w=kp++List.replicate (l.length-kp.length) aV.zero:=⟨_,rfl⟩
  have hqt:(w.flatMap ao).take (kp.length*14)=kp.flatMap ao:=by
   rw[jA cD,hw,List.take_append_of_le_length (ap _),b8 (ap _)]
  have hql:(w.flatMap ao).length=l.length*14:=by rw[bg cD,hw,li,List.length_replicate];congr 1;omega
  rw[<-hw] at hdel;have hm0:∀v:SV,vo (mL 2 4 λ_=>False) 0 v=.any:=λv=>nF λh=>h.1;have hw0:∀o:SO,wo (mL 2 4 λ_=>False) 0 o=.gone:=λo=>fz λh=>h.1;have hw9:∀o:SO,wo (mL 2 4 λj=>j<9) 0 o=.gone:=λo=>fz λh=>h.2 gt;refine aE.xm 9 14 (λL=>⟨(9,vo L 0 (.ag [an 3 c aq]))::(10,vo L 1 (an 14 l ao))::(11,vo (mL 2 4 L) 0 (.buf 3 l.length 14 none))::(12,vo L 3 (.fn 227 [] [.ptr 0 0]))::(13,vo L 4 (an 14 kp ao))::(14,vo L 5 (rm q))::(15,vo L 6 (.ag [an 14 q.1 ae]))::(16,vo L 7 (ab q.2.1))::(17,vo L 8 (ab q.2.2))::(5,.ptr 0 0)::(6,.ptr 1 0)::(1,an 14 l ao)::[(3,.ip [an 3 c aq])],18,[.cells [ab day],.cells [.a (.slice none 0 0 (some 0))],.gone,wo (mL 2 4 L) 0 (.cells (l.flatMap ao))],[]⟩) rfl zW g9 gt zW (bN (cL hv0 hm0 hw0)) (λL=>rfl) ?_ ?_
  ·rintro L i o him hC hr
   rcases i with _ | _ | _ | _ | _ | _ | _ | _ | _ | i
   rotate_right
   ·exact ul him ii
   ·cases hr.gX;refine(zR) ?_;exact(bN (bz @aZ (qi (a:=2) (b:=4) (i:=0) (L:=L) gt gt)))
   ·cases hr.gX;refine(zR) ?_;exact(bN (bz @aZ (qi (a:=2) (b:=4) (i:=1) (L:=L) gt gt)))
   ·cases hr.gX;have d1:L 1:=hr.dep ⟨1,.data⟩ gc rfl;have n2:¬L 2:=hr.new;have n4:¬L 4:=λh=>n2 (hC 4 _ rfl h ⟨2,.data⟩ gc rfl);refine oA ((9,vo L 0 (.ag [an 3 c aq]))::(10,an 14 l ao)::(12,vo L 3 (.fn 227 [] [.ptr 0 0]))::(13,vo L 4 (an 14 kp ao))::(14,vo L 5 (rm q))::(15,vo L 6 (.ag [an 14 q.1 ae]))::(16,vo L 7 (ab q.2.1))::(17,vo L 8 (ab q.2.2))::(5,.ptr 0 0)::(6,.ptr 1 0)::(1,an 14 l ao)::[(3,.ip [an 3 c aq])]) [.cells [ab day],.cells [.a (.slice none 0 0 (some 0))]] (bN (bz (fH d1) (WS (RR (b:=4) n2)))) ?_;refine zS [] (gh @cr hrq hbq hkq) hcl ?_;refine .nil ?_;exact(bN (lB hnq @aZ (fH d1) (fH (show mL 2 4 (λj=>L j\/j=0+1+1) 0 from Ti n4 gt)) (Wg (show mL 2 4 (λj=>L j\/j=0+1+1) 0 from Ti n4 gt))))
   ·cases hr.gX;refine(zR) ?_;exact(bN (bz @aZ (qi (a:=2) (b:=4) (i:=3) (L:=L) gt gt)))
   ·cases hr.gX;have d2:L 2:=hr.dep ⟨2,.data⟩ gc rfl;have d3:L 3:=hr.dep ⟨3,.data⟩ gc rfl;have n4:¬L 4:=hr.new;refine oA ((9,vo L 0 (.ag [an 3 c aq]))::(10,vo L 1 (an 14 l ao))::(11,.buf 3 l.length 14 none)::(12,.fn 227 [] [.ptr 0 0])::(14,vo L 5 (rm q))::(15,vo L 6 (.ag [an 14 q.1 ae]))::(16,vo L 7 (ab q.2.1))::(17,vo L 8 (ab q.2.2))::(5,.ptr 0 0)::(6,.ptr 1 0)::(1,an 14 l ao)::[(3,.ip [an 3 c aq])]) [.cells [ab day],.cells [.a (.slice none 0 0 (some 0))],.gone,.cells (l.flatMap ao)] (bN (cL (fH d3) (fH (show mL 2 4 L 0 from⟨d2,n4⟩)) (Wg (show mL 2 4 L 0 from⟨d2,n4⟩)))) ?_;refine zS [3,0] (lB @cr @rl hrq hbq hkq) hdel ?_;refine .nil ?_;refine Fg.trans (Fg.freeze (f':=(13,an 14 kp ao)::(9,vo L 0 (.ag [an 3 c aq]))::(10,vo L 1 (an 14 l ao))::(12,.fn 227 [] [.ptr 0 0])::(14,vo L 5 (rm q))::(15,vo L 6 (.ag [an 14 q.1 ae]))::(16,vo L 7 (ab q.2.1))::(17,vo L 8 (ab q.2.2))::(5,.ptr 0 0)::(6,.ptr 1 0)::(1,an 14 l ao)::[(3,.ip [an 3 c aq])]) 3 rfl ge ⟨.inr (.buf rfl (by rw[hqt];exact bm.refl (aA bO _)) (by rw[hql];exact Nat.mul_le_mul_right 14 hkl)),zj⟩) ?_;exact(bN (gh @aZ (fH d3) (Xf (show ¬mL 2 4 (λj=>L j\/j=0+1+1+1+1) 0 from Ps)) (WS (show ¬mL 2 4 (λj=>L j\/j=0+1+1+1+1) 0 from Ps))))
   ·cases hr.gX;have d0:L 0:=hr.dep ⟨0,.data⟩ gc rfl;have d4:L 4:=hr.dep ⟨4,.data⟩ gc rfl;refine(zK hrun (hc:=IH (bz (fH d0) (fH d4))) (hfl:=.inr (bm.refl rfl))) ?_;refine .nil ?_;exact(bN (gh @aZ (qi (a:=2) (b:=4) (i:=5) (L:=L) gt gt) (fH d0) (fH d4)))
   ·cases hr.gX;have d5:L 5:=hr.dep ⟨5,.data⟩ gc rfl;refine(cH (bz (fH d5) @rm.eq_1)) ?_;exact(bN (cL @aZ (qi (a:=2) (b:=4) (i:=6) (L:=L) gt gt) (fH d5)))
   ·cases hr.gX;have d5:L 5:=hr.dep ⟨5,.data⟩ gc rfl;refine(cH (bz (fH d5) @rm.eq_1)) ?_;exact(bN (cL @aZ (qi (a:=2) (b:=4) (i:=7) (L:=L) gt gt) (fH d5)))
   ·cases hr.gX;have d5:L 5:=hr.dep ⟨5,.data⟩ gc rfl;refine(cH (bz (fH d5) @rm.eq_1)) ?_;exact(bN (cL @aZ (qi (a:=2) (b:=4) (i:=8) (L:=L) gt gt) (fH d5)))
  ·change aR _ _ _ _ _ _
   refine oA [(15,.ag [an 14 q.1 ae]),(16,ab q.2.1),(17,ab q.2.2),(6,.ptr 1 0)] [.cells [ab day],.cells [.a (.slice none 0 0 (some 0))]] (bN (gh hw9 (hv9 6 gt) (hv9 7 gt) (hv9 8 gt)))<|(zR) ?_
   change aR _ _ _ _ _ _;refine(zR) ?_;change aR _ _ _ _ _ _
   refine(zR)<|(zE) ?_;exact zO [.cell 6 46,.tmp 7,.tmp 8] (r:=.cq [.ag [an 14 q.1 ae],ab q.2.1,ab q.2.2]) (hw:=zv)
structure lz where
 part:List Nat
 gb:List Nat
 day:Int
 deriving DecidableEq
def lz.av(d:lz):List AV:=[.str d.part,.str d.gb,.int .i64 d.day]
def oz(d:lz):AV:=.agg d.av
def lz.eq(a b:lz):gn eK a.av b.av=decide (a=b):=by
 obtain⟨a1,a2,a3⟩:=a;obtain⟨b1,b2,b3⟩:=b;simp only[lz.av,gn,eK,BE,ta,lU,cd,c0,lz.mk.injEq,dv]
def NB:Keys prog 137 oz:=
 wb (ks:=[.s,.s,.i .i64]) zW (by simp only[aH,m6]) (λ_=>rfl) lz.eq λ_=>rfl
def Ia{S:List SO}{o:Nat}{l:List (lz×Bool)}(a b:List Nat)(n:Int)(u:Bool)(hS:S[o]?=some (bD oz ak l)):iR prog S 134 (.map o) (.ag [ah a,ah b,ab n]) (.a (.bool u))=some (S.set o (bD oz ak (cu (⟨a,b,n⟩:lz) u l))):=
 JD (uv:=ak) (k:=(⟨a,b,n⟩:lz)) (kt:=137) (et:=4) (by simp only[aH]) NB hS rfl u
def oY{n:Nat}{l:List (lz×Bool)}:cI n (bD oz ak l)=bD oz ak l:=mO λ_=>mA _
def jt(l:List aV)(part:List Nat)(day:Int)(kind:List Nat)(m:List (lz×Bool))(d:ea):List (lz×Bool):=
 if sA d=true/\d.kind=kind/\(j7 d l part day).2=true then cu ⟨part,d.name,(j7 d l part day).1⟩ true m else m
def sD(ds:List ea)(c:List aK)(l:List aV)(part:List Nat)(day:Int):List (lz×Bool):=
 match bu (FT c l day).1 part with
 | none=>[]
 | some p=>if (FT c l day).2≠0\/p.aY=true then [] else ds.foldl (jt l part day p.kind) []
def LI{K U:Type}[DecidableEq K]{k:K}{v:U}:∀{m:List (K×U)} {e:K×U},e∈cu k v m->e=(k,v)\/e∈m
 | [],e,h=>by unfold cu at h;exact .inl (rx h)
 | a::m,e,h=>by
  unfold cu at h;split at h
  ·rcases t6 h with rfl | h
   ·exact .inl rfl
   ·exact .inr (ax _ h)
  ·rcases t6 h with rfl | h
   ·exact .inr bc
   ·exact(LI h).imp id (ax _)
def uK{K U:Type}[DecidableEq K]{k:K}{v:U}:∀{m:List (K×U)},(m.map (·.1)).Nodup->((cu k v m).map (·.1)).Nodup
 | [],_=>by unfold cu;simp
 | e::m,h=>by
  rw[bi,bk] at h;unfold cu;split
  ·rename_i hk;rw[bi,bk,hk];exact h
  ·rename_i hk;rw[bi,bk];refine⟨λhm=>?_,uK h.2⟩;obtain⟨x,hx,e1⟩:=mem_map.1 hm
   rcases LI hx with rfl | hx
   ·exact hk e1
   ·exact h.1 (e1▸cb hx)
def P6{K U:Type}[DecidableEq K]{k x:K}{v:U}{m:List (K×U)}:x∈(cu k v m).map (·.1)↔x=k\/x∈m.map (·.1):=by
 rw[<-lH,<-lH,qW,cc,wp,or_comm]
def LF(ds:List ea)(c:List aK)(l:List aV)(part:List Nat)(day:Int):((sD ds c l part day).map (·.1)).Nodup/\∀x,x∈(sD ds c l part day).map (·.1)↔x.part=part/\(x.gb,x.day)∈rh ds c l part day:=by
 unfold sD rh
 cases bu (FT c l day).1 part with
 | none=>exact⟨a7,λx=>by simp⟩
 | some p=>
  simp only;split
  ·exact⟨a7,λx=>by simp⟩
  ·have key:∀(ds:List ea) (m:List (lz×Bool)),(m.map (·.1)).Nodup->((ds.foldl (jt l part day p.kind) m).map (·.1)).Nodup/\∀x,x∈(ds.foldl (jt l part day p.kind) m).map (·.1)↔x∈m.map (·.1)\/(x.part=part/\(x.gb,x.day)∈ds.filterMap λd=>if sA d=true/\d.kind=p.kind/\(j7 d l part day).2=true then some (d.name,(j7 d l part day).1) else none):=by
    intro ds
    induction ds with
    | nil=>exact λm h=>⟨h,λx=>by simp⟩
    | cons d ds ih=>
     intro m h;rw[b5,List.filterMap_cons];rw[show jt l part day p.kind m d=if sA d=true/\d.kind=p.kind/\(j7 d l part day).2=true then cu ⟨part,d.name,(j7 d l part day).1⟩ true m else m from rfl];by_cases hd:sA d=true/\d.kind=p.kind/\(j7 d l part day).2=true
     ·rw[un hd,un hd];obtain⟨i1,i2⟩:=ih _ (uK (k:=(⟨part,d.name,(j7 d l part day).1⟩:lz)) (v:=true) h);refine⟨i1,λx=>?_⟩;rw[i2,P6,ca];obtain⟨x1,x2,x3⟩:=x;simp only[lz.mk.injEq,m8];constructor
      ·rintro((⟨rfl,rfl,rfl⟩ | h) | ⟨h1,h2⟩)
       ·exact .inr ⟨rfl,.inl ⟨rfl,rfl⟩⟩
       ·exact .inl h
       ·exact .inr ⟨h1,.inr h2⟩
      ·rintro(h | ⟨h1,⟨rfl,rfl⟩ | h2⟩)
       ·exact .inl (.inr h)
       ·exact .inl (.inl ⟨h1,rfl,rfl⟩)
       ·exact .inr ⟨h1,h2⟩
     ·rw[ut hd,ut hd];exact ih m h
   obtain⟨k1,k2⟩:=key ds [] a7;exact⟨k1,λx=>by rw[k2];simp⟩
def DJ:∀(s acc:List (List Nat)),acc.Pairwise (λa b=>fO a b=true)->s.Pairwise (λa b=>xZ a b=true)->(∀a∈acc,∀b∈s,xZ a b=true)->
 (s.foldl (λacc x=>if acc.getLast?=some x then acc else acc++[x]) acc).Pairwise (λa b=>fO a b=true)/\∀x,x∈s.foldl (λacc x=>if acc.getLast?=some x then acc else acc++[x]) acc↔x∈acc\/x∈s
 | [],acc,h,_,_=>⟨h,λx=>by simp⟩
 | y::s,acc,h,hs,ha=>by
  rw[cv] at hs;rw[b5];by_cases hl:acc.getLast?=some y
  ·rw[un hl];have hy:y∈acc:=List.mem_of_getLast? hl;obtain⟨i1,i2⟩:=DJ s acc h hs.2 λa h1 b h2=>ha a h1 b (ax _ h2);refine⟨i1,λx=>?_⟩;rw[i2,ca];constructor
   ·rintro(h | h)
    ·exact .inl h
    ·exact .inr (.inr h)
   ·rintro(h | rfl | h)
    ·exact .inl h
    ·exact .inl hy
    ·exact .inr h
  ·rw[ut hl]
   have hlt:∀a∈acc,fO a y=true:=by
    intro a hm;have h1:=ha a hm y bc
    rcases j8 a y with k | k | k
    ·exact k
    ·exfalso;subst k
     obtain⟨z,hz⟩:∃z,acc.getLast?=some z:=by
      cases hq:acc.getLast? with
      | none=>rw[List.getLast?_eq_none_iff] at hq;subst hq;cases hm
      | some z=>exact⟨z,rfl⟩
     obtain⟨pre,rfl⟩:=List.getLast?_eq_some_iff.1 hz
     rcases mem_append.1 hm with hm | hm
     ·have h2:=(List.pairwise_append.1 h).2.2 a hm z (rt rfl);have h3:=ha z (List.mem_append_right _ (rt rfl)) a bc;unfold xZ at h3;rw[h2] at h3;cases h3
     ·rw[rx hm] at hl;exact hl hz
    ·unfold xZ at h1;rw[k] at h1;cases h1
   obtain⟨i1,i2⟩:=DJ s (acc++[y]) (List.pairwise_append.2 ⟨h,List.pairwise_singleton _ _,λa h1 b h2=>by rw[rx h2];exact hlt a h1⟩) hs.2 (by
    intro a h1 b h2
    rcases mem_append.1 h1 with h1 | h1
    ·exact ha a h1 b (ax _ h2)
    ·rw[rx h1];exact hs.1 b h2)
   refine⟨i1,λx=>?_⟩;rw[i2,mem_append,List.mem_singleton,ca,or_assoc]
def Un(l:List (List Nat)):(No l).Pairwise (λa b=>fO a b=true)/\∀x,x∈No l↔x∈l:=by
 obtain⟨h1,h2⟩:=DJ (ek l) [] .nil (HB l) λa h=>by cases h
 refine⟨h1,λx=>?_⟩;show x∈sz (ek l)↔_;unfold sz;rw[h2];simp[(sH l).mem_iff]
def Qy{K l:List (List Nat)}(hn:K.Nodup)(hm:∀x,x∈K↔x∈l):ek K=No l:=by
 obtain⟨h1,h2⟩:=Un l
 have hd:(No l).Nodup:=h1.imp λh e=>by rw[e,dq] at h;cases h
 refine(AZ ((List.perm_ext_iff_of_nodup hd hn).2 λx=>by rw[h2,hm]) ?_).symm;unfold rK
 exact h1.imp λ{a b} h=>by
  cases k:fO b a with
  | false=>rfl
  | true=>have:=fP h k;rw[dq] at this;cases this
def Gm{c:List aK}{ps:List ai}{e:aV}(h:(aI c ps e).2=0):cQ e=true:=by
 unfold aI at h;cases h1:Proofs.cS c ps
 ·rw[h1,ut gt] at h;exact ul h gt
 cases h2:cQ e
 ·rw[h1,un rfl,h2,ut gt] at h;exact ul h gt
 ·rfl
def Gt{u:Bool}{c:List aK}{dmg:bo}:∀(l:List aV) (s:List ai),(su u c dmg l s).2=0->∀e∈l,cQ e=true
 | [],_,_,_,h=>by cases h
 | e::r,s,h,x,hx=>by
  rw[su] at h;by_cases h0:(aI c s e).2=0
  ·rw[un h0] at h
   rcases t6 hx with rfl | hx
   ·exact Gm h0
   ·exact Gt r _ h x hx
  ·rw[ut h0] at h;exact ul h h0
def Rc{c:List aK}{l:List aV}{day:Int}(h:(FT c l day).2=0):∀e∈l,e.day<=day->0<=e.day/\e.day<=40000:=by
 intro e he hd;unfold FT at h;split at h
 ·have:=Gt _ _ h e ((vY _ _).mem_iff.2 (mem_filter.2 ⟨he,by unfold dK;simp;omega⟩));unfold cQ at this;simp only[bt,Bool.not_eq_true',wn] at this;obtain⟨_,h1,h2,_⟩:=this;omega
 ·exact ul h gt
def TP(c:List aK)(l:List aV)(day:Int):(BN c (db (dK day) l)).1=(FT c l day).1/\(BN c (db (dK day) l)).2.2=(FT c l day).2:=by
 unfold BN FT;split
 ·exact L5 _ _ _
 ·exact⟨rfl,rfl⟩
def Ay(a b:aB):Bool:=decide (a.kind<b.kind)||(decide (a.kind=b.kind)&&(fO a.part b.part||(decide (a.part=b.part)&&fO a.name b.name)))
def Cu(x:aB):List aB->List aB
 | []=>[x]
 | y::l=>if Ay y x=true then y::Cu x l else x::y::l
def iG:List aB->List aB
 | []=>[]
 | x::l=>Cu x (iG l)
def uF(l:List aB):List aB:=(l.foldl (λm f=>cu f true m) ([]:List (aB×Bool))).map (·.1)
def fE(c:List aK)(dmg:bo)(b:eg)(l:List aV)(vehicle:List Nat)(day:Int):List aB:=
 match bu (runN c dmg l day).1 vehicle with
 | none=>[⟨4,vehicle,[]⟩]
 | some v=>if (runN c dmg l day).2.2≠0\/v.aY=true\/((dH c v.kind).getD aK.zero).vehicle=false then [⟨4,vehicle,[]⟩]
  else iG (uF (z6 c b l (runN c dmg l day).1 vehicle day v))
def tg(x:aB):∀l,(Cu x l).Perm (x::l)
 | []=>.refl _
 | y::l=>by
  rw[Cu];split
  ·exact((tg x l).cons y).trans (.swap x y l)
  ·exact .refl _
def gk:∀l,(iG l).Perm l
 | []=>.refl _
 | x::l=>(tg x _).trans ((gk l).cons x)
def D9(a b:aB):Ay a b=true\/a=b\/Ay b a=true:=by
 obtain⟨k,p,n⟩:=a;obtain⟨k2,p2,n2⟩:=b;unfold Ay;simp only[cc,bt,wp,aB.mk.injEq]
 rcases ct k k2 with h | h | h
 ·exact .inl (.inl h)
 ·rcases j8 p p2 with h1 | h1 | h1
  ·exact .inl (.inr ⟨h,.inl h1⟩)
  ·rcases j8 n n2 with h2 | h2 | h2
   ·exact .inl (.inr ⟨h,.inr ⟨h1,h2⟩⟩)
   ·exact .inr (.inl ⟨h,h1,h2⟩)
   ·exact .inr (.inr (.inr ⟨h.symm,.inr ⟨h1.symm,h2⟩⟩))
  ·exact .inr (.inr (.inr ⟨h.symm,.inl h1⟩))
 ·exact .inr (.inr (.inl h))
def pb{a b c:aB}(h1:Ay a b=true)(h2:Ay b c=true):Ay a c=true:=by
 unfold Ay at *;simp only[cc,bt,wp] at *
 rcases h1 with h1 | ⟨e1,h1⟩<;>rcases h2 with h2 | ⟨e2,h2⟩
 ·exact .inl ii
 ·exact .inl ii
 ·exact .inl ii
 ·refine .inr ⟨e1.trans e2,?_⟩
  rcases h1 with h1 | ⟨f1,h1⟩<;>rcases h2 with h2 | ⟨f2,h2⟩
  ·exact .inl (fP h1 h2)
  ·exact .inl (f2▸h1)
  ·exact .inl (f1▸h2)
  ·exact .inr ⟨f1.trans f2,fP h1 h2⟩
def D8(a:aB):Ay a a=false:=by
 unfold Ay;rw[dq,dq];simp
def GA{x:aB}:∀{l:List aB},l.Pairwise (λa b=>Ay a b=true)->x∉l->(Cu x l).Pairwise λa b=>Ay a b=true
 | [],_,_=>.cons (λ_ h=>by cases h) .nil
 | y::l,h,hx=>by
  have h0:=h;rw[cv] at h;rw[ca,not_or] at hx;rw[Cu];split
  ·rename_i c;refine .cons (λz hz=>?_) (GA h.2 hx.2)
   rcases t6 ((tg x l).mem_iff.1 hz) with rfl | hz
   ·exact c
   ·exact h.1 z hz
  ·rename_i c
   have hxy:Ay x y=true:=by
    rcases D9 x y with k | k | k
    ·exact k
    ·exact ul k hx.1
    ·exact ul k c
   refine .cons (λz hz=>?_) h0
   rcases t6 hz with rfl | hz
   ·exact hxy
   ·exact pb hxy (h.1 z hz)
def sd:∀{l:List aB},l.Nodup->(iG l).Pairwise λa b=>Ay a b=true
 | [],_=>.nil
 | x::l,h=>by
  rw[bk] at h;exact GA (sd h.2) λk=>h.1 ((gk l).mem_iff.1 k)
def Hj{k:aB}{v:Bool}:∀{m:List (aB×Bool)} {e:aB×Bool},e∈cu k v m->e=(k,v)\/e∈m
 | [],e,h=>by unfold cu at h;exact .inl (rx h)
 | a::m,e,h=>by
  unfold cu at h;split at h
  ·rcases t6 h with rfl | h
   ·exact .inl rfl
   ·exact .inr (ax _ h)
  ·rcases t6 h with rfl | h
   ·exact .inr bc
   ·exact(Hj h).imp id (ax _)
def CT{k:aB}{v:Bool}:∀{m:List (aB×Bool)},(m.map (·.1)).Nodup->((cu k v m).map (·.1)).Nodup
 | [],_=>by unfold cu;simp
 | e::m,h=>by
  rw[bi,bk] at h;unfold cu;split
  ·rename_i hk;rw[bi,bk,hk];exact h
  ·rename_i hk;rw[bi,bk];refine⟨λhm=>?_,CT h.2⟩;obtain⟨x,hx,e1⟩:=mem_map.1 hm
   rcases Hj hx with rfl | hx
   ·exact hk e1
   ·exact h.1 (e1▸cb hx)
def Ej:∀(l:List aB) (m:List (aB×Bool)),(m.map (·.1)).Nodup->((l.foldl (λm f=>cu f true m) m).map (·.1)).Nodup/\∀f,f∈(l.foldl (λm f=>cu f true m) m).map (·.1)↔f∈m.map (·.1)\/f∈l
 | [],m,h=>⟨h,λf=>by simp⟩
 | x::l,m,h=>by
  obtain⟨i1,i2⟩:=Ej l (cu x true m) (CT h);refine⟨i1,λf=>?_⟩;rw[b5,i2,<-lH,<-lH,qW,cc,wp,ca];constructor
  ·rintro((h | h) | h)
   ·exact .inr (.inl h)
   ·exact .inl h
   ·exact .inr (.inr h)
  ·rintro(h | h | h)
   ·exact .inl (.inr h)
   ·exact .inl (.inl h)
   ·exact .inr h
def M6{l:List aB}{f:aB}:f∈uF l↔f∈l:=by
 have:=(Ej l [] a7).2 f;unfold uF;rw[this];simp
def Hb(l:List aB):(uF l).Nodup:=(Ej l [] a7).1
abbrev VM(l:List aB):Prop:=l.Pairwise λa b=>Ay a b=true
def JO(l:List aB):VM (iG (uF l))/\∀f,f∈iG (uF l)↔f∈l:=
 ⟨sd (Hb _),λf=>by rw[(gk _).mem_iff,M6]⟩
def HA{c:List aK}:∀(l:List aV) (i:Nat) (s:List ai),(∀p∈s,fJ p)->(∀e∈l,lP e)->(qH c i l s).1.length<=s.length+l.length
 | [],_,s,_,_=>ap _
 | e::r,i,s,hp,he=>by
  obtain⟨q1,q2,_,_⟩:=oR (c:=c) (ps:=s) (e:=e) hp (he e bc);rw[qH];split
  ·have:=HA (c:=c) r (i+1) (aI c s e).1 q1 λx hx=>he x (ax _ hx);rw[i7];omega
  ·exact aS _
def Qp{c:List aK}{l:List aV}{day:Int}(hlen:l.length<20)(hl:∀e∈l,lP e):(BN c (db (dK day) l)).1.length<=20:=by
 unfold BN;split
 ·refine a8 (HA _ _ _ (λp h=>by cases h) λe he=>hl e (yG he)) ?_;have:=EC l (dK day);simp only[i5];omega
 ·exact aS _
def IP{d:ea}{l:List aV}{part:List Nat}{day:Int}(h:∀e∈l,e.day<=day->0<=e.day/\e.day<=40000):∀n∈nN d l part day,0<=n/\n<=40000:=by
 intro n hn;obtain⟨e,he,rfl⟩:=mem_map.1 hn;obtain⟨h1,h2⟩:=mem_filter.1 he;rw[bt] at h2;unfold Es at h2;rw[bt] at h2;exact h e h1 (ww h2.1.2)
def Kn(ds:List ea)(c:List aK)(l:List aV)(part:List Nat)(day:Int)(hd:∀d∈ds,Dk d)(hdl:ds.length<=1000000)(hc:mS c)(hlen:l.length<20)(hl:∀e∈l,lP e):PC prog 63 [an 5 ds bl,.ag [an 3 c aq],an 14 l ao,ah part,ab day] (·=mw oz ak (sD ds c l part day)):=by
 have hat:=QB c l day hc hlen hl;obtain⟨ha1,ha2⟩:=TP c l day;have had:=Rc (c:=c) (l:=l) (day:=day);have hpl:=Qp (c:=c) (day:=day) hlen hl;obtain⟨R,hR⟩:∃R,R=sD ds c l part day:=⟨_,rfl⟩;rw[<-hR];unfold sD at hR;generalize BN c (db (dK day) l)=q at hat ha1 ha2 hpl;rw[<-ha2] at had;rw[<-ha1,<-ha2] at hR;clear ha1 ha2;have hf:=iZ q.1 part ii
 refine pB 85 Tryz.func63 ?_;refine(zV) ?_;refine zZ ((0,an 5 ds bl)::(6,.ip [an 3 c aq])::(2,an 14 l ao)::(3,ah part)::[(4,ab day)]) 0 rfl (gV @an.eq_1)<|zA ((0,an 5 ds bl)::(6,.ip [an 3 c aq])::(2,an 14 l ao)::(3,ah part)::[(4,ab day)]) [] zH<|(jM)<|(zK hat (hfl:=.inr (bm.refl rfl)))<|(cH @rm.eq_1)<|zA ((14,ab q.2.2)::(12,.ptr 1 0)::(11,.map 0)::(0,an 5 ds bl)::(2,an 14 l ao)::(3,ah part)::[(4,ab day)]) [bD oz ak [],.cells [an 14 q.1 ae]] (bN (show SO.map [] [] none=bD oz ak [] from rfl)) ?_;refine zZ ((14,ab q.2.2)::(12,.ip [an 14 q.1 ae])::(11,.map 0)::(0,an 5 ds bl)::(2,an 14 l ao)::(3,ah part)::[(4,ab day)]) 1 rfl ⟨.inl rfl,.inr (.ptr rfl (bm.refl rfl) (aS _)),zj⟩<|zA ((14,ab q.2.2)::(12,.ip [an 14 q.1 ae])::(11,.map 0)::(0,an 5 ds bl)::(2,an 14 l ao)::(3,ah part)::[(4,ab day)]) [bD oz ak []] zH<|(zC) ?_;refine aR.k g9 rfl rfl g9 rfl zc (hf) (zw) (.inr (bm.refl (by cases bu q.1 part<;>rfl))) ?_
 cases hm:bu q.1 part with
 | none=>
  rw[hm] at hR;simp only at hR;refine(cH (gh @jn.eq_1 @ae.eq_1 @ai.zero.eq_1 @oY)) ?_;cases g0:decide (q.2.2=0)
  ·exact(az g0)<|(cB)<|zo [.tmp 10] (r:=mw oz ak []) (hw:=mF (λ_=>rfl) rfl) (hq:=by rw[hR])
  ·exact(az g0)<|(cB)<|zo [.tmp 10] (r:=mw oz ak []) (hw:=mF (λ_=>rfl) rfl) (hq:=by rw[hR])
 | some p=>
  rw[hm] at hR;simp only at hR;refine(cH (cL @jn.eq_1 @ae.eq_1 @oY)) ?_;cases g0:decide (q.2.2=0)
  ·exact(az g0)<|(cB)<|zo [.tmp 10] (r:=mw oz ak []) (hw:=mF (λ_=>rfl) rfl) (hq:=by rw[hR,un (.inl (wt g0))])
  cases g1:p.aY;rotate_left
  ·exact(az (bz g0 g1))<|(cB)<|zo [.tmp 10] (r:=mw oz ak []) (hw:=mF (λ_=>rfl) rfl) (hq:=by rw[hR,un (.inr g1)])
  have hq0:=ww g0;have hbd:=λd=>IP (d:=d) (part:=part) (had hq0);rw[ut (by rw[g1];simp[hq0])] at hR
  refine(az (bz g0 g1))<|(ly)<|zA ((50,ab 0)::(49,ab ds.length)::(48,an 5 ds bl)::(15,.ptr 1 0)::(11,.map 0)::(2,an 14 l ao)::(3,ah part)::[(4,ab day)]) [bD oz ak [],.cells [ah p.name,ah p.kind,ah p.aJ,ah p.slot,ab p.made,ab p.since,ak false,an 2 p.props aG,ab p.l1,ab p.l2,ab p.l3,ab p.l4,ab p.l5,ab p.l6]] zH ?_;refine zZ ((50,ab 0)::(49,ab ds.length)::(48,an 5 ds bl)::(15,.ip [ah p.name,ah p.kind,ah p.aJ,ah p.slot,ab p.made,ab p.since,ak false,an 2 p.props aG,ab p.l1,ab p.l2,ab p.l3,ab p.l4,ab p.l5,ab p.l6])::(11,.map 0)::(2,an 14 l ao)::(3,ah part)::[(4,ab day)]) 1 rfl ⟨.inl rfl,.inl rfl,.inl rfl,.inr (.ptr rfl (bm.refl rfl) (aS _)),zj⟩<|zA ((50,ab 0)::(49,ab ds.length)::(48,an 5 ds bl)::(15,.ip [ah p.name,ah p.kind,ah p.aJ,ah p.slot,ab p.made,ab p.since,ak false,an 2 p.props aG,ab p.l1,ab p.l2,ab p.l3,ab p.l4,ab p.l5,ab p.l6])::(11,.map 0)::(2,an 14 l ao)::(3,ah part)::[(4,ab day)]) [bD oz ak []] zH<|(zs) ?_;refine KG ds (λk (mm:List (lz×Bool))=>mm=(ds.take k).foldl (jt l part day p.kind) []) (λk mm=>(50,ab k)::(49,ab ds.length)::(48,an 5 ds bl)::(15,.ip [ah p.name,ah p.kind,ah p.aJ,ah p.slot,ab p.made,ab p.since,ak false,an 2 p.props aG,ab p.l1,ab p.l2,ab p.l3,ab p.l4,ab p.l5,ab p.l6])::(11,.map 0)::(2,an 14 l ao)::(3,ah part)::[(4,ab day)]) (λk mm=>[bD oz ak mm]) ([]) zH g9 ?_;intro k mm hk hall;refine zT ds k ?_ ?_;rintro rfl;rotate_left;intro d hx hlt;rotate_left
  ·refine(gE) ?_;rw[ba] at hall
   exact(zV)<|zo [.tmp 10] (r:=mw oz ak mm) (hw:=mF (λ_=>rfl) rfl) (hq:=by rw[hR,<-hall])
  have hsn:(ds.take (k+1)).foldl (jt l part day p.kind) []=jt l part day p.kind mm d:=by rw[c8 hx,b4,<-hall];rfl
  have hdo:=hd d (bb hx);have hdv:=JX d hdo;rw[show jt l part day p.kind mm d=if sA d=true/\d.kind=p.kind/\(j7 d l part day).2=true then cu ⟨part,d.name,(j7 d l part day).1⟩ true mm else mm from rfl] at hsn
  refine(gO)<|(az (gh hlt (aQ (e:=5) (enc:=bl) (λ_=>rfl) hx) @bl.eq_1 @oY))<|(az @oY)<|(zC)<|(zK hdv) ?_
  cases g2:sA d
  ·rw[ut (by rw[g2];simp)] at hsn
   refine(zR)<|(zY) ?_;refine aE.exit ?_
   (try change aE _ _ _ _ _)
   refine(az (zi hlt hdl)) ?_;refine yL hlt (mm) zH hsn.symm
  cases g3:decide (d.kind=p.kind)
  ·rw[ut (by rintro⟨_,h,_⟩;exact wt g3 h)] at hsn
   refine(cH (bz g3 @oY))<|(zY) ?_;refine aE.exit ?_
   (try change aE _ _ _ _ _)
   refine(az (zi hlt hdl)) ?_;refine yL hlt (mm) zH hsn.symm
  refine(cH (bz g3 @oY))<|(zN) ?_
  have hw:0<=d.within/\d.within<=40000:=by
   unfold sA at g2;simp only[bt,wp] at g2;exact g2.2.2.2.2.2
  have hlast:=Kg d l part day ii hw (hbd d);generalize j7 d l part day=la at hlast hsn
  refine(zC)<|(zK hlast)<|(zR) ?_
  cases g4:la.2
  ·rw[ut (by rw[g4];simp)] at hsn
   refine(az g4)<|(zN)<|(az (zi hlt hdl)) ?_;refine yL hlt (mm) zH hsn.symm
  ·rw[un ⟨g2,ww g3,g4⟩] at hsn
   refine(az g4)<|(zY)<|(zs) ?_;refine aE.r0 g9 (by simp only[dD,bY,an,aH,m7,m6,↓reduceIte,ad,af,am,ac,al,ar,aw,bP,Ia (l:=mm)];first | done | rfl) ?_;refine(az (zi hlt hdl)) ?_;refine yL hlt (cu ⟨part,d.name,la.1⟩ true mm) zH hsn.symm
def Ke(L:List (List Nat×Bool)):PC prog 65 [mw AV.str ak L] (·=.fn 149 [] [.ip [mw AV.str ak L]]):=by
 refine pB 4 Tryz.func65 ?_;refine(zV) ?_;refine zZ [(1,.ip [mw AV.str ak L])] 0 rfl (gV @an.eq_1) ?_
 (try change aE _ _ _ _ _)
 exact(zV)<|zo [.tmp 2]
def iw(lc:jP):SO:=.loop lc .ready none [(2,.ptr 1 0)]
def Jk(o:Nat)(lc:jP)(h:¬1=o):cI o (iw lc)=iw lc:=by
 simp[iw,cI,eU,bf,Ev.names,h]
def tH(lc:jP):Prop:=(prog.funcs[(233:Nat)]?.bind λfn=>fn.body.bind vS)=some (lc.a,lc.b)
def HY(L:List (List Nat×Bool))(lc:jP)(hcd:tH lc)(hln:lc.n=13)(hlp:lc.ps=#[7])(hlen:L.length<=100000)(hnd:(L.map (·.1)).Nodup):
 SC prog 149 [.a (.fn (.yield lc.id) [] []),.ip [mw AV.str ak L]] [iw lc,.cells [bF],.gone] [2] (λr S'=>r=.cq []/\∃out:List (List Nat),out.Perm (L.map (·.1))/\S'=[iw lc,.cells [cj 2 1 out.length],fe out]):=by
 refine VI 14 func149 ?_;have hk3:=Jk 3 lc gt;refine(zC) ?_;refine aR.VE (ks:=L.map λe=>.str e.1) (vs:=L.map λe=>ak e.2) g9 rfl rfl g9 rfl (by simp only[aH]) ?_;intro bs c hbs;refine aR.r0 g9 (by simp only[dD,bY,an,aH,m7,m6,↓reduceIte,ad,af,am,ac,al,ar,aw,bP,↓hk3];first | done | rfl) ?_
 (repeat refine aE.seq ?_)
 refine aE.block (aE.loop (λm st=>∃pos:List Nat,pos.Nodup/\(∀j∈pos,j<L.length)/\L.length-pos.length=m/\st=⟨[(0,.a (.fn (.yield lc.id) [] [])),(5,.ptr 3 0),(1000000,.ptr 0 0),(1000001,.ptr 1 0)],14,[iw lc,.cells [cj 2 1 (bp L pos).length],fe ((bp L pos).map (·.1)),.pI (L.map λe=>.str e.1) (L.map λe=>ak e.2) bs c pos],[]⟩) L.length (bN (wS @bp.eq_1 @List.filterMap_nil.{0,0} @map_nil.{0,0} @i5.{0} @lX @iD)) ⟨[],a7,λj hj=>by simp at hj,rfl,rfl⟩ (by rintro m st ⟨pos,_,_,_,rfl⟩;rfl) ?_);rintro m st ⟨pos,hpn,hpl,rfl,rfl⟩;refine aE.post ?_;refine(zC) ?_;refine aR.VB g9 rfl rfl g9 rfl rfl (λj hj=>by rw[aj];exact hpl j hj) ?_ ?_
 ·intro hall
  refine(zR)<|(gE) ?_;refine⟨⟨[(1000000,.ptr 0 0),(1000001,.ptr 1 0)],14,[iw lc,.cells [cj 2 1 (bp L pos).length],fe ((bp L pos).map (·.1))],[]⟩,zH,?_⟩
  simp only[e8,df,bW,bI,if_true];exact zP [] (hq:=by (try simp only[eI,bG]);first | done | (exact⟨trivial,(bp L pos).map (·.1),(nj hpn hpl (λj hj=>hall j (by rw[aj];exact hj))).map _,by rw[aj]⟩))
 ·intro j hj hjn;rw[aj] at hj;obtain⟨e,he⟩:∃e,L[j]?=some e:=⟨L[j],jp hj⟩;obtain⟨q1,q2,q3⟩:=rj hpn hpl hj hjn;have hsn:=lG L pos he
  refine(zR)<|(gO)<|(zC) ?_;refine aR.Vw (k:=.str e.1) (v:=ak e.2) g9 rfl rfl g9 rfl rfl (by rw[a6,he];rfl) (by rw[a6,he];rfl) ?_;refine(zR)<|(zC)<|oA [(10,.a (.fn (.yield lc.id) [] [])),(11,ah e.1),(0,.a (.fn (.yield lc.id) [] [])),(5,.ptr 3 0),(1000000,.ptr 0 0),(1000001,.ptr 1 0)] [iw lc,.cells [cj 2 1 (bp L pos).length],fe ((bp L pos).map (·.1)),.pI (L.map λe=>.str e.1) (L.map λe=>ak e.2) bs c (pos++[j])] zH ?_;refine aR.y (vs:=[ah e.1]) (oo:=0) g9 rfl rfl g9 rfl rfl rfl g9 rfl (by rw[hlp];rfl) (by rw[hln];rfl) (by rw[hln];decide) (by rw[hlp,hln];rfl) λro'=>?_
  have hcd2:=hcd;unfold tH at hcd2;rw[dd] at hcd2;have hcd3:=Option.some.inj (hcd2.symm.trans g9);obtain⟨ha,hbb⟩:=Prod.mk.inj hcd3;rw[ha,hlp,hln];have hhl:(bp L pos).length=((bp L pos).map (·.1)).length:=(aj _).symm;rw[hhl]
  have hol:((bp L pos).map (·.1)).length<=100000:=by rw[<-hhl];exact a8 (b7 _ _) ii
  generalize hout:(bp L pos).map (·.1)=out at hol;change aE _ _ _ ⟨[(7,ah e.1),(2,.ptr 1 0),(20000010,.a (.fn (.yield lc.id) [] [])),(20000011,ah e.1),(20000000,.a (.fn (.yield lc.id) [] [])),(20000005,.ptr 3 0),(21000000,.ptr 0 0),(21000001,.ptr 1 0)],13,[iw lc,.cells [cj 2 1 out.length],fe out,.pI (L.map λe=>.str e.1) (L.map λe=>ak e.2) bs c (pos++[j])],[]⟩ _;refine(zV) ?_;refine⟨rfl,0,none,[(2,.ptr 1 0)],rfl,?_⟩;rw[hbb];refine(zB) ?_;change aE _ _ _ ⟨_,13,[.loop lc .busy none [(2,.ptr 1 0)],.cells [cj 2 1 out.length],fe out,.pI (L.map λe=>.str e.1) (L.map λe=>ak e.2) bs c (pos++[j])],[]⟩ _;by_cases ho:out=[]
  ·have hE1:cj 2 1 (bp L (pos++[j])).length=.buf 2 1 1 none:=by rw[hsn,li,hhl,hout,ho];rfl
   have hE2:fe ((bp L (pos++[j])).map (·.1))=.cells [ah e.1]:=by rw[hsn,bh,hout,ho];rfl
   rw[ho,iD,show cj 2 1 ([]:List (List Nat)).length=bF from rfl];refine(zV) ?_;refine⟨rfl,0,.busy,none,[(2,.ptr 1 0)],rfl,?_⟩;simp only[zf,laid,ac,ay,↓reduceIte]
   refine oA [(12,ak true),(0,.a (.fn (.yield lc.id) [] [])),(5,.ptr 3 0),(1000000,.ptr 0 0),(1000001,.ptr 1 0)] [iw lc,.cells [.buf 2 1 1 none],.cells [ah e.1],.pI (L.map λe=>.str e.1) (L.map λe=>ak e.2) bs c (pos++[j])] (Fg.rn (f':=[(12,ak true),(0,.a (.fn (.yield lc.id) [] [])),(5,.ptr 3 0),(1000000,.ptr 0 0),(1000001,.ptr 1 0)]) (n:=14) (S':=[iw lc,.cells [.buf 2 1 1 none],.cells [ah e.1],.pI (L.map λe=>.str e.1) (L.map λe=>ak e.2) bs c (pos++[j])]) [0,1,5,3] gt rfl (NP (lB @iw.eq_1 @Bx.eq_1 @Bw.eq_1 @zk.eq_1 @zf.eq_1)) (NQ (lB @iw.eq_1 @Bx.eq_1 @Bw.eq_1 @zk.eq_1 @zf.eq_1)))<|(zR)<|(zN) ?_;exact⟨⟨[(0,.a (.fn (.yield lc.id) [] [])),(5,.ptr 3 0),(1000000,.ptr 0 0),(1000001,.ptr 1 0)],14,[iw lc,.cells [.buf 2 1 1 none],.cells [ah e.1],.pI (L.map λe=>.str e.1) (L.map λe=>ak e.2) bs c (pos++[j])],[]⟩,(bN @iw.eq_1),L.length-(pos++[j]).length,_,by rw[li];simp only[i7,i5];omega,(bN (cL @iw.eq_1 hE1 hE2)),pos++[j],q1,q2,rfl,rfl⟩
  ·have hk1:¬out.length=0:=λh=>ho (t7 h)
   have hE1:cj 2 1 (bp L (pos++[j])).length=.buf 2 (out.length+1) 1 none:=by rw[hsn,li,hhl,hout];exact eF gc
   have hE2:fe ((bp L (pos++[j])).map (·.1))=.cells ((out++[e.1]).flatMap (aD ah)):=by rw[hsn,bh,hout];exact gz gc
   have hcl3:=bg (enc:=aD ah) (e:=1) (λ_=>rfl) out;have hkc3:=λo=>bC (enc:=aD ah) (λ_=>rfl) o out;have happ:=mI (enc:=aD ah) (e:=1) (λ_=>rfl) (λ_=>rfl) 2 out e.1;rw[show aD ah e.1=[ah e.1] from rfl,c6] at happ;rw[c6] at hcl3;rw[gz ho,eF hk1];refine(az (wS hkc3 hcl3 @c6 (show out.length<=1000000 by omega) @ap happ)) ?_;refine⟨rfl,0,.busy,none,[(2,.ptr 1 0)],rfl,?_⟩;simp only[zf,laid,ac,ay,↓reduceIte]
   refine oA [(12,ak true),(0,.a (.fn (.yield lc.id) [] [])),(5,.ptr 3 0),(1000000,.ptr 0 0),(1000001,.ptr 1 0)] [iw lc,.cells [.buf 2 (out.length+1) 1 none],.cells ((out++[e.1]).flatMap (aD ah)),.pI (L.map λe=>.str e.1) (L.map λe=>ak e.2) bs c (pos++[j])] (bN (lB @iw.eq_1 @zf.eq_1 @Bx.eq_1 @Bw.eq_1 @zk.eq_1))<|(zR)<|(zN) ?_;exact⟨⟨[(0,.a (.fn (.yield lc.id) [] [])),(5,.ptr 3 0),(1000000,.ptr 0 0),(1000001,.ptr 1 0)],14,[iw lc,.cells [.buf 2 (out.length+1) 1 none],.cells ((out++[e.1]).flatMap (aD ah)),.pI (L.map λe=>.str e.1) (L.map λe=>ak e.2) bs c (pos++[j])],[]⟩,(bN @iw.eq_1),L.length-(pos++[j]).length,_,by rw[li];simp only[i7,i5];omega,(bN (cL @iw.eq_1 hE1 hE2)),pos++[j],q1,q2,rfl,rfl⟩
def EH(L:List (List Nat×Bool))(hlen:L.length<=100000)(hnd:(L.map (·.1)).Nodup):SC prog 233 [bF,.fn 149 [] [.ip [mw AV.str ak L]]] [] [] (λr S'=>∃out:List (List Nat),out.Perm (L.map (·.1))/\r=cj 0 1 out.length/\S'=[fe out,.gone]):=by
 refine SC.tQ (n:=13) dz dd rfl rfl gt (W:=[]) rfl gt ?_;refine(oL)<|zA [(2,.ptr 0 0),(6,.fn 149 [] [.ip [mw AV.str ak L]])] [.cells [bF],.gone] zH<|(zB) ?_;refine aE.uL (f1:=[(2,.ptr 0 0)]) dz g9 func149 g9 Wh ?_
 rintro N lc hid hn hps ha hb
 have hcd:tH lc:=by
  unfold tH;rw[dd,ha,hb];rfl
 have hsc:=HY L lc hcd hn hps hlen hnd;refine⟨[3,0,1],_,_,_,_,hsc,?_,rfl,by decide,?_,?_⟩
 ·simp only[gJ,bY,dD,an,eU,bf,↓reduceIte,ad,af,ay,hid,List.map,d7,cons_append,nil_append]
  try rfl
 ·rintro(_ | _ | _ | i) so h
  ·cases h;exact⟨3,rfl,by rfl⟩
  ·cases h;exact⟨0,rfl,by rfl⟩
  ·cases h;exact⟨1,rfl,by rfl⟩
  ·cases h
 rintro r S' ⟨rfl,out,hp,rfl⟩
 have hbn:∀n:Nat,dG 3 (cj 2 1 n)=true:=λn=>by
  unfold cj;split
  ·exact gF rfl
  ·rfl
 have hrn3:∀(B n:Nat),qo (km [3,0,1] B) (.cells [cj 2 1 n])=.cells [cj 1 1 n]:=λB n=>by
  show SO.cells [fG _ _]=_;rw[dM];rfl
 refine⟨by simp only[iw,C5,gJ,bY,an,af,al,decide_true,↓ib,↓hbn];first | done | rfl,3,.ready,none,[(2,.ptr 0 0)],by rfl,by decide,by rfl,?_⟩
 have hS2:(dP (gy (gy [SO.cells [bF],SO.gone] (SO.nd N)) (SO.loop lc .ready none [(2,.ptr 0 0)])) [3,0,1] [2] [iw lc,.cells [cj 2 1 out.length],fe out]).set 3 .gone=[.cells [cj 1 1 out.length],fe out,.nd N,.gone]:=by
  simp only[dP,gy,eC,dg,gw,gU,i7,i5,List.map,aj,li,↓hrn3,↓eQ];rfl
 rw[hS2];change aE _ _ _ ⟨[(2,.ptr 0 0)],13,[.cells [cj 1 1 out.length],fe out,.nd N,.gone],[{ fn:=none,FU:=N,args:=[],cap:=[] }]⟩ _;refine(zV) ?_;refine zA [(4,cj 0 1 out.length)] [fe out,.nd N] (Fg.rn (f':=[(4,cj 0 1 out.length)]) (n:=13) (S':=[fe out,.nd N]) [1,2] gt rfl (NP (bz @dM @eQ)) (NQ (bz @dM @eQ))) ?_;refine aE.ret ?_
 (try simp only[e8,df,bW,bI])
 exact⟨rfl,[(4,cj 0 1 out.length)],⟨rfl,trivial⟩,rfl,.inl ⟨rfl,1,rfl,⟨[cj 0 1 out.length],by rfl,out,hp,rfl,rfl⟩,aS _,λi hi=>ul hi (c5 _)⟩⟩
def sK(L:List (List Nat×Bool))(hlen:L.length<=100000)(hnd:(L.map (·.1)).Nodup):SC prog 148 [.fn 149 [] [.ip [mw AV.str ak L]]] [] [] (λr S'=>∃out:List (List Nat),out.Perm (L.map (·.1))/\r=cj 0 1 out.length/\S'=[fe out,.gone]):=by
 refine Nl 5 Tryz.func148 ?_;refine(jM) ?_;refine aR.sc [] g9 rfl rfl g9 rfl zc (EH L hlen hnd) (by simp only[gJ,bY,an];first | done | rfl) rfl gt (λi so h=>by simp at h) ?_ ?_
 ·rintro r S' ⟨out,hp,rfl,rfl⟩;exact⟨fK 1 1 _,by simp only[C5,↓ib];first | done | rfl⟩
 ·rintro r S' ⟨out,hp,rfl,rfl⟩;have e1:fG (km [] ([]:List SO).length) (cj 0 1 out.length)=cj 0 1 out.length:=dM _ 0 1 _
  have e2:dP [] [] [] [fe out,.gone]=[fe out,.gone]:=by
   simp only[dP,dg,gw,gU,i7,i5,List.map,↓eQ];rfl
  rw[e1,e2]
  refine oA [(4,cj 0 1 out.length)] [fe out,.gone] zH<|(zR)<|(zE) ?_;exact zP [.tmp 2] (hq:=by (try simp only[eI,bG]);first | done | (exact⟨out,hp,rfl,rfl⟩))
def Ft(L:List (List Nat×Bool))(hlen:L.length<=100000)(hnd:(L.map (·.1)).Nodup)(hne:L≠[]):SC prog 64 [.fn 149 [] [.ip [mw AV.str ak L]]] [] [] (λr S'=>r=.buf 0 L.length 1 none/\S'=[.cells ((ek (L.map (·.1))).flatMap (aD ah))]):=by
 refine Nl 9 func64 ?_;refine(jM) ?_;refine aR.sc [] g9 rfl rfl g9 rfl zc (sK L hlen hnd) (by simp only[gJ,bY,an];first | done | rfl) rfl gt (λi so h=>by simp at h) ?_ ?_
 ·rintro r S' ⟨out,hp,rfl,rfl⟩;exact⟨fK 1 1 _,by simp only[C5,↓ib];first | done | rfl⟩
 ·rintro r S' ⟨out,hp,rfl,rfl⟩;have e1:fG (km [] ([]:List SO).length) (cj 0 1 out.length)=cj 0 1 out.length:=dM _ 0 1 _
  have e2:dP [] [] [] [fe out,.gone]=[fe out,.gone]:=by
   simp only[dP,dg,gw,gU,i7,i5,List.map,↓eQ];rfl
  rw[e1,e2]
  have hol:out.length=L.length:=by rw[hp.length_eq,aj]
  have hon:out≠[]:=λe=>hne (t7 (by rw[<-hol,e];rfl));have hso:ek out=ek (L.map (·.1)):=tx hp;have hss:=Bl out ii hon;rw[hso,hol] at hss;have hcs:∀(r:Nat->Nat) (q:List (List Nat)),nr r (q.flatMap (aD ah))=q.flatMap (aD ah):=λr q=>br (aA (λ_=>rfl) q);have hcb:∀(B:Nat) (q:List (List Nat)),je B (q.flatMap (aD ah))=true:=λB q=>bK (aA (λ_=>rfl) q);have hck:∀(o:Nat) (q:List (List Nat)),(q.flatMap (aD ah)).map (bf o)=q.flatMap (aD ah):=λo q=>bC (enc:=aD ah) (λ_=>rfl) o q;rw[gz hon,hol,eF (λh=>hne (t7 h))]
  refine oA [(5,.buf 0 L.length 1 none)] [.cells (out.flatMap (aD ah))] zH<|(zR)<|(zC) ?_;refine zS [0] (cL hcs hcb hck) hss ?_;refine(zR)<|(zV)<|(zE) ?_;exact zP [.tmp 2]
def B4:SC prog 64 [.fn 149 [] [.ip [mw AV.str ak []]]] [] [] (λr S'=>r=bF/\S'=[]):=by
 refine Nl 9 func64 ?_;refine(jM) ?_;refine aR.sc [] g9 rfl rfl g9 rfl zc (sK [] (aS _) a7) (by simp only[gJ,bY,an];first | done | rfl) rfl gt (λi so h=>by simp at h) ?_ ?_
 ·rintro r S' ⟨out,hp,rfl,rfl⟩;exact⟨fK 1 1 _,by simp only[C5,↓ib];first | done | rfl⟩
 ·rintro r S' ⟨out,hp,rfl,rfl⟩;obtain rfl:out=[]:=Perm.eq_nil hp
  refine oA [(5,bF)] [] (bN (show fG (km [] ([]:List SO).length) (cj 0 1 ([]:List (List Nat)).length)=bF from rfl))<|(zR)<|(zC)<|(zK vw)<|(zR)<|(zV)<|(zE) ?_;exact zP [.tmp 2]
def yE{K U:Type}[DecidableEq K]{k:K}{v:U}:∀{m:List (K×U)},(cu k v m).length<=m.length+1
 | []=>by unfold cu;simp
 | a::m=>by
  unfold cu;split
  ·rw[i7,i7];omega
  ·have:=yE (k:=k) (v:=v) (m:=m);rw[i7,i7];omega
def dV(day:Int)(m:List (List Nat×Bool))(x:lz×Bool):List (List Nat×Bool):=if x.1.day<day then cu x.1.gb true m else m
def uB(day:Int):∀(q:List (lz×Bool)) (m:List (List Nat×Bool)),(m.map (·.1)).Nodup->((q.foldl (dV day) m).map (·.1)).Nodup/\∀x,x∈(q.foldl (dV day) m).map (·.1)↔x∈m.map (·.1)\/∃e∈q,e.1.day<day/\e.1.gb=x
 | [],m,h=>⟨h,λx=>by simp⟩
 | y::q,m,h=>by
  rw[b5];by_cases hd:y.1.day<day
  ·rw[show dV day m y=cu y.1.gb true m from un hd];obtain⟨i1,i2⟩:=uB day q (cu y.1.gb true m) (uK h);refine⟨i1,λx=>?_⟩;rw[i2,P6];constructor
   ·rintro((rfl | h) | ⟨e,he,h1,h2⟩)
    ·exact .inr ⟨y,bc,hd,rfl⟩
    ·exact .inl h
    ·exact .inr ⟨e,ax _ he,h1,h2⟩
   ·rintro(h | ⟨e,he,h1,h2⟩)
    ·exact .inl (.inr h)
    ·rcases t6 he with rfl | he
     ·exact .inl (.inl h2.symm)
     ·exact .inr ⟨e,he,h1,h2⟩
  ·rw[show dV day m y=m from ut hd];obtain⟨i1,i2⟩:=uB day q m h;refine⟨i1,λx=>?_⟩;rw[i2];constructor
   ·rintro(h | ⟨e,he,h1,h2⟩)
    ·exact .inl h
    ·exact .inr ⟨e,ax _ he,h1,h2⟩
   ·rintro(h | ⟨e,he,h1,h2⟩)
    ·exact .inl h
    ·rcases t6 he with rfl | he
     ·exact ul h1 hd
     ·exact .inr ⟨e,he,h1,h2⟩
def Js{ds:List ea}{c:List aK}{l:List aV}{part:List Nat}{day:Int}{q:List (lz×Bool)}(hq:q.Perm (sD ds c l part day)):ek ((q.foldl (dV day) []).map (·.1))=iE ds c l part day:=by
 obtain⟨h1,h2⟩:=uB day q [] a7;obtain⟨_,p2⟩:=LF ds c l part day;refine Qy h1 λx=>?_;rw[h2];constructor
 ·rintro(h | ⟨e,he,h3,rfl⟩)
  ·cases h
  ·have:=(p2 e.1).1 (cb (hq.mem_iff.1 he));exact mem_map.2 ⟨(e.1.gb,e.1.day),mem_filter.2 ⟨this.2,wl h3⟩,rfl⟩
 ·intro h;obtain⟨e,he,rfl⟩:=mem_map.1 h;obtain⟨h3,h4⟩:=mem_filter.1 he;obtain⟨x,hx,e1⟩:=mem_map.1 ((p2 ⟨part,e.1,e.2⟩).2 ⟨rfl,h3⟩);exact .inr ⟨x,hq.mem_iff.2 hx,by rw[e1];exact ww h4,by rw[e1]⟩
def M0(day:Int)(q:List (lz×Bool)):(q.foldl (dV day) []).length<=q.length:=by
 have key:∀(q:List (lz×Bool)) (m:List (List Nat×Bool)),(q.foldl (dV day) m).length<=m.length+q.length:=by
  intro q
  induction q with
  | nil=>intro m;exact ap _
  | cons y q ih=>
   intro m;rw[b5,i7]
   have h1:(dV day m y).length<=m.length+1:=by
    unfold dV;split
    ·exact yE
    ·omega
   have:=ih (dV day m y);omega
 have:=key q [];simpa using this
def SH(d:lz):ve (oz d)=.ag [ah d.part,ah d.gb,ab d.day]:=rfl
def P0(ds:List ea)(c:List aK)(l:List aV)(part:List Nat)(day:Int):(sD ds c l part day).length<=ds.length:=by
 unfold sD;split
 ·exact aS _
 ·split
  ·exact aS _
  ·rename_i p _ _
   have key:∀(ds:List ea) (m:List (lz×Bool)),(ds.foldl (jt l part day p.kind) m).length<=m.length+ds.length:=by
    intro q
    induction q with
    | nil=>intro m;exact ap _
    | cons y q ih=>
     intro m;rw[b5,i7]
     have h1:(jt l part day p.kind m y).length<=m.length+1:=by
      unfold jt;split
      ·exact yE
      ·omega
     have:=ih (jt l part day p.kind m y);omega
   have:=key ds [];simpa using this
def Kl(ds:List ea)(c:List aK)(l:List aV)(part:List Nat)(day:Int)(hd:∀d∈ds,Dk d)(hdl:ds.length<=100000)(hc:mS c)(hlen:l.length<20)(hl:∀e∈l,lP e):PC prog 22 [an 5 ds bl,.ag [an 3 c aq],an 14 l ao,ah part,ab day] (·=an 1 (iE ds c l part day) (aD ah)):=by
 have hp:=Kn ds c l part day hd ii hc hlen hl;have hpl:=P0 ds c l part day;have hpk:=(LF ds c l part day).1;have hsr:=λq hq=>Js (ds:=ds) (c:=c) (l:=l) (part:=part) (day:=day) (q:=q) hq;generalize sD ds c l part day=M at hp hpl hpk hsr
 refine pB 35 Tryz.func22 ?_;refine(zV) ?_;refine zZ ((0,an 5 ds bl)::(6,.ip [an 3 c aq])::(2,an 14 l ao)::(3,ah part)::[(4,ab day)]) 0 rfl (gV @an.eq_1)<|zA ((0,an 5 ds bl)::(6,.ip [an 3 c aq])::(2,an 14 l ao)::(3,ah part)::[(4,ab day)]) [] zH<|(jM)<|(zK hp (hfl:=.inr (bm.refl rfl))) ?_;refine aR.VE (ks:=M.map λe=>oz e.1) (vs:=M.map λe=>ak e.2) g9 rfl rfl g9 rfl (by simp only[aH]) ?_
 intro bs c hbs;refine(zR) ?_
 (repeat refine aE.seq ?_)
 refine aE.block (aE.loop (λm st=>∃pos:List Nat,pos.Nodup/\(∀j∈pos,j<M.length)/\M.length-pos.length=m/\st=⟨[(4,ab day),(11,.map 0),(20,.ptr 1 0)],35,[bD AV.str ak ((bp M pos).foldl (dV day) []),.pI (M.map λe=>oz e.1) (M.map λe=>ak e.2) bs c pos],[]⟩) M.length (bN (show SO.map [] [] none=bD AV.str ak ((bp M []).foldl (dV day) []) from rfl)) ⟨[],a7,λj h=>(bv h).elim,rfl,rfl⟩ (by rintro m st ⟨_,_,_,_,rfl⟩;rfl) ?_);rintro m st ⟨pos,hpn,hpl2,rfl,rfl⟩;refine(zC) ?_;refine aR.VB g9 rfl rfl g9 rfl rfl (λj hj=>by rw[aj];exact hpl2 j hj) ?_ ?_;rotate_left
 ·intro j hj hjn;rw[aj] at hj;obtain⟨e,he⟩:∃e,M[j]?=some e:=⟨M[j],jp hj⟩;obtain⟨q1,q2,q3⟩:=rj hpn hpl2 hj hjn
  have hsn:(bp M (pos++[j])).foldl (dV day) []=dV day ((bp M pos).foldl (dV day) []) e:=by rw[lG M pos he,b4];rfl
  rw[show ∀m,dV day m e=if e.1.day<day then cu e.1.gb true m else m from λ_=>rfl] at hsn;generalize (bp M pos).foldl (dV day) []=nm at hsn ⊢
  have hmeas:M.length-(pos++[j]).length<M.length-pos.length:=by rw[li];simp only[i7,i5];omega
  refine(cH @q7)<|(gO)<|(zC) ?_;refine aR.Vw (k:=oz e.1) (v:=ak e.2) g9 rfl rfl g9 rfl rfl (by rw[a6,he];rfl) (by rw[a6,he];rfl) ?_;refine(cH (bz @SH @q7)) ?_
  by_cases hb:e.1.day<day
  ·rw[un hb] at hsn
   refine(az (wl hb))<|(zY)<|(zs) ?_;refine aE.r0 g9 (by simp only[dD,bY,an,aH,m7,m6,↓reduceIte,ad,af,am,ac,al,ar,aw,bP,sg (l:=nm),q7];first | done | rfl) ?_;exact⟨M.length-(pos++[j]).length,_,hmeas,(bN hsn),pos++[j],q1,q2,rfl,rfl⟩
  ·rw[ut hb] at hsn
   refine(az (wd hb))<|(zN) ?_;exact⟨M.length-(pos++[j]).length,_,hmeas,(bN hsn),pos++[j],q1,q2,rfl,rfl⟩
 intro hall;have hperm:(bp M pos).Perm M:=nj hpn hpl2 λj hj=>hall j (by rw[aj];exact hj);have hkn:=(uB day (bp M pos) [] a7).1;have hkl:=M0 day (bp M pos)
 have hml:(bp M pos).length<=100000:=by rw[hperm.length_eq];omega
 have hso:=hsr _ hperm;rw[<-hso];generalize (bp M pos).foldl (dV day) []=nm at hkn hkl ⊢
 refine(cH @q7)<|(gE) ?_
 (try simp only[e8,df,bW,bI,if_true])
 refine zZ [(11,mw AV.str ak nm)] 0 rfl ⟨.inr (mF (λ_=>rfl) rfl),trivial⟩<|zA [(11,mw AV.str ak nm)] [] zH<|(zC)<|(zK (Ke nm) (hfl:=.inr (bm.refl rfl))) ?_
 by_cases hn0:nm=[]
 ·subst hn0
  refine zS [] trivial B4 ?_;exact(zR)<|zo [.tmp 10] (r:=an 1 ([]:List (List Nat)) (aD ah)) (hw:=.nil _)
 ·have hss:=Ft nm ii hkn hn0;have hcs:∀(r:Nat->Nat) (q:List (List Nat)),nr r (q.flatMap (aD ah))=q.flatMap (aD ah):=λr q=>br (aA (λ_=>rfl) q);have hcb:∀(B:Nat) (q:List (List Nat)),je B (q.flatMap (aD ah))=true:=λB q=>bK (aA (λ_=>rfl) q);have hck:∀(o:Nat) (q:List (List Nat)),(q.flatMap (aD ah)).map (bf o)=q.flatMap (aD ah):=λo q=>bC (enc:=aD ah) (λ_=>rfl) o q
  have hsl:(ek (nm.map (·.1))).length=nm.length:=by rw[(sH _).length_eq,aj]
  refine zS [] (cL hcs hcb hck) hss ?_;exact(zR)<|zo [.tmp 10] (r:=.sl nm.length 1 ((ek (nm.map (·.1))).flatMap (aD ah))) (hw:=.buf rfl (by rw[<-hsl,eL (enc:=aD ah) (e:=1) (λ_=>rfl)];exact bm.refl (aA (λ_=>rfl) _)) (by rw[bg (enc:=aD ah) (e:=1) (λ_=>rfl),hsl];exact ap _)) (hq:=by rw[tv,hsl])
open Go.Ev Go.RowKit Go.Sort
def zb(x y:Int):Int:=if x<y then -1 else if y<x then 1 else 0
def jR(x y:ByteArray):Int:=if Op.bytesLess x.toList y.toList=true then -1 else if (x.toList==y.toList)=true then 0 else 1
def BK(x y z:Int):Int:=if x≠0 then x else if y≠0 then y else z
set_option maxRecDepth 100000 in
def JU(x y:Int)(W:World):Calls prog 78 #[.int .i64 x,.int .i64 y] W λe w'=>e=.returned (.int .i64 (zb x y))/\w'=W:=by
 unfold zb
 go_enter Tryz.func78,Tryz.ntmps78
 go_wp2
 all_goals (go_ret;exact⟨rfl,rfl⟩)
set_option maxRecDepth 100000 in
def Ki(x:ByteArray)(W:World):Calls prog 159 #[.string x] W λe w'=>e=.returned (.bool false)/\w'=W:=by
 go_enter Tryz.func159,Tryz.ntmps159
 go_wp2
 go_ret
 exact⟨rfl,rfl⟩
set_option maxRecDepth 100000 in
def A6(x y:ByteArray)(W:World):Calls prog 79 #[.string x,.string y] W λe w'=>e=.returned (.int .i64 (jR x y))/\w'=W:=by
 have hn:=λz W'=>Ki z W';cases h1:Op.bytesLess x.toList y.toList
 ·cases h2:(x.toList==y.toList)
  ·rw[show jR x y=1 by unfold jR;rw[h1,h2];rfl]
   go_enter d9,dt
   go_wp2_with (go_at_call 159;refine(hn _ _).mono ?_;rintro e w' ⟨rfl,rfl⟩)
   all_goals (go_ret;exact⟨rfl,rfl⟩)
  ·rw[show jR x y=0 by unfold jR;rw[h1,h2];rfl]
   go_enter d9,dt
   go_wp2_with (go_at_call 159;refine(hn _ _).mono ?_;rintro e w' ⟨rfl,rfl⟩)
   all_goals (go_ret;exact⟨rfl,rfl⟩)
 ·rw[show jR x y = -1 by unfold jR;rw[h1];rfl]
  go_enter d9,dt
  go_wp2_with (go_at_call 159;refine(hn _ _).mono ?_;rintro e w' ⟨rfl,rfl⟩)
  all_goals (go_ret;exact⟨rfl,rfl⟩)
set_option maxRecDepth 100000 in
def QG(x y z:Int)(W:World)(b c:Nat)(h0:W.cell? ⟨b,0,none⟩=some (.int .i64 x))(h1:W.cell? ⟨b,1,none⟩=some (.int .i64 y))(h2:W.cell? ⟨b,2,none⟩=some (.int .i64 z)):Calls prog 77 #[.slice (some ⟨b,0,none⟩) 3 c] W λe w'=>e=.returned (.int .i64 (BK x y z))/\w'=W:=by
 by_cases g1:x=0
 ·by_cases g2:y=0
  ·rw[show BK x y z=z by unfold BK;simp[g1,g2]];subst g1 g2;by_cases g3:z=0
   ·subst g3
    go_enter c3,cn
    go_wp2
    refine wp_loop_rounds 4 ?_;rw[rounds_succ]
    go_wp2
    rw[rounds_succ]
    go_wp2
    rw[rounds_succ]
    go_wp2
    rw[rounds_succ]
    go_wp2
    all_goals (go_ret;exact⟨rfl,rfl⟩)
   ·go_enter c3,cn
    go_wp2
    refine wp_loop_rounds 3 ?_;rw[rounds_succ]
    go_wp2
    rw[rounds_succ]
    go_wp2
    rw[rounds_succ]
    go_wp2
    all_goals (go_ret;exact⟨rfl,rfl⟩)
  ·rw[show BK x y z=y by unfold BK;simp[g1,g2]];subst g1
   go_enter c3,cn
   go_wp2
   refine wp_loop_rounds 2 ?_;rw[rounds_succ]
   go_wp2
   rw[rounds_succ]
   go_wp2
   all_goals (go_ret;exact⟨rfl,rfl⟩)
 ·rw[show BK x y z=x by unfold BK;simp[g1]]
  go_enter c3,cn
  go_wp2
  refine wp_loop_rounds 1 ?_;rw[rounds_succ]
  go_wp2
  all_goals (go_ret;exact⟨rfl,rfl⟩)
def M7(W:World)(cs:Array Value)(t:TypeId)(i:Nat):(W.alloc (Obj.cells cs t)).cell? ⟨W.heap.size,i,none⟩=cs[i]?:=by
 unfold World.cell?;rw[show(W.alloc (Obj.cells cs t)).heap=W.heap.push (Obj.cells cs t) from rfl];simp only[ce];rw[un trivial];rfl
def NL(W:World)(cs ds:Array Value)(t:TypeId):(∀i,(World.drew ((W.alloc (Obj.cells cs t)).alloc (Obj.cells ds t))).cell? ⟨W.heap.size,i,none⟩=cs[i]?)/\(∀i,(World.drew ((W.alloc (Obj.cells cs t)).alloc (Obj.cells ds t))).cell? ⟨W.heap.size+1,i,none⟩=ds[i]?)/\World.drew ((W.alloc (Obj.cells cs t)).alloc (Obj.cells ds t))=grow (W.drewN 1) #[Obj.cells cs t,Obj.cells ds t]:=by
 have e:(World.drew ((W.alloc (Obj.cells cs t)).alloc (Obj.cells ds t))).heap=(W.heap.push (Obj.cells cs t)).push (Obj.cells ds t):=rfl;refine⟨λi=>?_,λi=>?_,?_⟩
 ·unfold World.cell?;rw[e];simp only[ce,dF];rw[ut ii,un trivial];rfl
 ·unfold World.cell?;rw[e];simp only[ce,dF];rw[un trivial];rfl
 ·unfold grow World.drewN World.drew
  congr 1
set_option maxRecDepth 100000 in
def BQ(x1 y1:Int)(x2 x3 y2 y3:ByteArray)(W:World):Calls prog 76 #[.agg #[.int .i64 x1,.string x2,.string x3],.agg #[.int .i64 y1,.string y2,.string y3]] W λe w'=>e=.returned (.int .i64 (BK (zb x1 y1) (jR x2 y2) (jR x3 y3)))/\∃q os',w'=grow (W.drewN q) os':=by
 have hI:=λW'=>JU x1 y1 W';have hS2:=λW'=>A6 x2 y2 W';have hS3:=λW'=>A6 x3 y3 W'
 go_enter func76,Tryz.ntmps76
 go_wp2
 refine wp_region_still_tail 15 zW zW ?_;change wpStill _ _ (World.drew ((W.alloc (Obj.cells #[Value.int .i64 x1,Value.string x2,Value.string x3] 65)).alloc (Obj.cells #[Value.int .i64 y1,Value.string y2,Value.string y3] 65))) (λa'=>wpList _ _ _ _ a' (World.drew ((W.alloc (Obj.cells #[Value.int .i64 x1,Value.string x2,Value.string x3] 65)).alloc (Obj.cells #[Value.int .i64 y1,Value.string y2,Value.string y3] 65)))) _ _;obtain⟨k1,k2,k3⟩:=NL W #[Value.int .i64 x1,Value.string x2,Value.string x3] #[Value.int .i64 y1,Value.string y2,Value.string y3] 65;have a0:(World.drew ((W.alloc (Obj.cells #[Value.int .i64 x1,Value.string x2,Value.string x3] 65)).alloc (Obj.cells #[Value.int .i64 y1,Value.string y2,Value.string y3] 65))).cell? ⟨W.heap.size,0,none⟩=some (.int .i64 x1):=k1 0;have a1:(World.drew ((W.alloc (Obj.cells #[Value.int .i64 x1,Value.string x2,Value.string x3] 65)).alloc (Obj.cells #[Value.int .i64 y1,Value.string y2,Value.string y3] 65))).cell? ⟨W.heap.size,1,none⟩=some (.string x2):=k1 1;have a2:(World.drew ((W.alloc (Obj.cells #[Value.int .i64 x1,Value.string x2,Value.string x3] 65)).alloc (Obj.cells #[Value.int .i64 y1,Value.string y2,Value.string y3] 65))).cell? ⟨W.heap.size,2,none⟩=some (.string x3):=k1 2;have b0:(World.drew ((W.alloc (Obj.cells #[Value.int .i64 x1,Value.string x2,Value.string x3] 65)).alloc (Obj.cells #[Value.int .i64 y1,Value.string y2,Value.string y3] 65))).cell? ⟨W.heap.size+1,0,none⟩=some (.int .i64 y1):=k2 0;have b1:(World.drew ((W.alloc (Obj.cells #[Value.int .i64 x1,Value.string x2,Value.string x3] 65)).alloc (Obj.cells #[Value.int .i64 y1,Value.string y2,Value.string y3] 65))).cell? ⟨W.heap.size+1,1,none⟩=some (.string y2):=k2 1;have b2:(World.drew ((W.alloc (Obj.cells #[Value.int .i64 x1,Value.string x2,Value.string x3] 65)).alloc (Obj.cells #[Value.int .i64 y1,Value.string y2,Value.string y3] 65))).cell? ⟨W.heap.size+1,2,none⟩=some (.string y3):=k2 2;have HD:Hid ((World.drew ((W.alloc (Obj.cells #[Value.int .i64 x1,Value.string x2,Value.string x3] 65)).alloc (Obj.cells #[Value.int .i64 y1,Value.string y2,Value.string y3] 65)))=grow (W.drewN 1) #[Obj.cells #[Value.int .i64 x1,Value.string x2,Value.string x3] 65,Obj.cells #[Value.int .i64 y1,Value.string y2,Value.string y3] 65]):=k3;clear k1 k2 k3;generalize (World.drew ((W.alloc (Obj.cells #[Value.int .i64 x1,Value.string x2,Value.string x3] 65)).alloc (Obj.cells #[Value.int .i64 y1,Value.string y2,Value.string y3] 65)))=W2 at a0 a1 a2 b0 b1 b2 HD ⊢;simp only[List.take_succ_cons,take_zero,List.drop_succ_cons,d8]
 still_step
 still_step
 still_step
 still_step
 still_call (hI _)
 still_step
 still_step
 still_step
 still_step
 still_call (hS2 _)
 still_step
 still_step
 still_step
 still_step
 still_call (hS3 _)
 refine wpStill_nil ?_;have hal:∀(W2:World) (cs:Array Value) (t:TypeId) (i:Nat),(W2.alloc (Obj.cells cs t)).cell? ⟨W2.heap.size,i,none⟩=cs[i]?:=M7
 go_wp2_with (go_at_call 77;refine(QG (zb x1 y1) (jR x2 y2) (jR x3 y3) _ W2.heap.size 3 (hal _ _ _ 0) (hal _ _ _ 1) (hal _ _ _ 2)).mono ?_;rintro e w' ⟨rfl,rfl⟩)
 go_ret
 refine⟨rfl,1,#[Obj.cells #[Value.int .i64 x1,Value.string x2,Value.string x3] 65,Obj.cells #[Value.int .i64 y1,Value.string y2,Value.string y3] 65,Obj.cells #[Value.int .i64 (zb x1 y1),Value.int .i64 (jR x2 y2),Value.int .i64 (jR x3 y3)] 3],?_⟩;rw[HD.out];rfl
open Go.Shelf
def qF:Go.Shelf.Ren:=⟨λ| 6=>156 | 15=>127 | 14=>238 | 28=>212 | 29=>213 | 20=>287 | 21=>288 | 22=>289 | 23=>290 | 24=>291 | 25=>292 | 26=>293 | 27=>294 | 46=>314 | 47=>270 | 48=>271 | 49=>315 | 50=>316 | 57=>326 | n=>n,λ| 22=>41 | 24=>65 | 25=>163 | 3=>3 | 39=>210 | 0=>0 | 53=>281 | 55=>283 | 4=>4 | 46=>274 | 45=>273 | 50=>122 | 5=>5 | 9=>9 | 66=>318 | 70=>322 | 76=>344 | 77=>345 | n=>n,λ| n=>n⟩
def xM:Go.Proofs.SlLaysF0.n6 prog qF:={
 mixed:=by kernel_rfl
 f6:=⟨Tryz.f156.name,by decide,func156.trans (rc some zW)⟩
 f14:=⟨Tryz.f238.name,by decide,func238.trans (rc some zW)⟩
 f15:=Tryz.func127.trans (rc some zW)
 f20:=⟨Tryz.f287.name,by decide,func287.trans (rc some zW)⟩
 f21:=⟨Tryz.f288.name,by decide,Tryz.func288.trans (rc some zW)⟩
 f22:=⟨Tryz.f289.name,by decide,Tryz.func289.trans (rc some zW)⟩
 f23:=⟨Tryz.f290.name,by decide,Tryz.func290.trans (rc some zW)⟩
 f24:=⟨Tryz.f291.name,by decide,Tryz.func291.trans (rc some zW)⟩
 f25:=⟨Tryz.f292.name,by decide,Tryz.func292.trans (rc some zW)⟩
 f26:=⟨Tryz.f293.name,by decide,Tryz.func293.trans (rc some zW)⟩
 f27:=⟨Tryz.f294.name,by decide,Tryz.func294.trans (rc some zW)⟩
 f28:=Tryz.func212.trans (rc some zW)
 f29:=Tryz.func213.trans (rc some zW)
 f46:=⟨Tryz.f314.name,by decide,Tryz.func314.trans (rc some zW)⟩
 f47:=Tryz.func270.trans (rc some zW)
 f48:=Tryz.func271.trans (rc some zW)
 f49:=⟨Tryz.f315.name,by decide,Tryz.func315.trans (rc some zW)⟩
 f50:=⟨Tryz.f316.name,by decide,Tryz.func316.trans (rc some zW)⟩
 f57:=⟨Tryz.f326.name,by decide,Tryz.func326.trans (rc some zW)⟩
 t0:=Tryz.underlying0
 a0:=Tryz.isAgg0
 z0:=Tryz.sizeOf0
 v0:=Tryz.zeroValue0
 t3:=Tryz.underlying3
 a3:=Tryz.isAgg3
 z3:=Tryz.sizeOf3
 v3:=Tryz.zeroValue3
 t4:=Tryz.underlying4
 a4:=Tryz.isAgg4
 z4:=Tryz.sizeOf4
 v4:=Tryz.zeroValue4
 t5:=Tryz.underlying5
 a5:=Tryz.isAgg5
 z5:=Tryz.sizeOf5
 v5:=Tryz.zeroValue5
 t9:=Tryz.underlying9
 a9:=Tryz.isAgg9
 z9:=Tryz.sizeOf9
 v9:=Tryz.zeroValue9
 t22:=Tryz.underlying41
 a22:=Tryz.isAgg41
 z22:=Tryz.sizeOf41
 v22:=Tryz.zeroValue41
 t25:=Tryz.underlying163
 a25:=Tryz.isAgg163
 z25:=Tryz.sizeOf163
 v25:=Tryz.zeroValue163
 t39:=Tryz.underlying210
 a39:=Tryz.isAgg210
 z39:=Tryz.sizeOf210
 v39:=Tryz.zeroValue210
 t45:=Tryz.underlying273
 a45:=Tryz.isAgg273
 z45:=Tryz.sizeOf273
 v45:=Tryz.zeroValue273
 t46:=Tryz.underlying274
 a46:=Tryz.isAgg274
 z46:=Tryz.sizeOf274
 v46:=Tryz.zeroValue274
 t50:=Tryz.underlying122
 a50:=Tryz.isAgg122
 z50:=Tryz.sizeOf122
 v50:=Tryz.zeroValue122
 t53:=Tryz.underlying281
 a53:=Tryz.isAgg281
 z53:=Tryz.sizeOf281
 v53:=Tryz.zeroValue281
 t55:=Tryz.underlying283
 a55:=Tryz.isAgg283
 z55:=Tryz.sizeOf283
 v55:=Tryz.zeroValue283
 t66:=Tryz.underlying318
 a66:=Tryz.isAgg318
 z66:=Tryz.sizeOf318
 v66:=Tryz.zeroValue318
 t70:=Tryz.underlying322
 a70:=Tryz.isAgg322
 z70:=Tryz.sizeOf322
 v70:=Tryz.zeroValue322
 t76:=Tryz.underlying344
 a76:=Tryz.isAgg344
 z76:=Tryz.sizeOf344
 v76:=Tryz.zeroValue344
 t77:=Tryz.underlying345
 a77:=Tryz.isAgg345
 z77:=Tryz.sizeOf345
 v77:=Tryz.zeroValue345 }
open Go.Ev Go.RowKit Go.Shelf Go.Lib Go.Sort
set_option maxRecDepth 100000 in
def J9(p:Option Addr)(cap:Nat)(fv:Value)(w:World):
 Calls prog 287 #[.slice p 0 cap,.int .i64 0,.int .i64 0,fv] w λe w'=>e=.returned (.tuple #[])/\w'=w:=by
 go_enter func287,Tryz.ntmps287
 go_wp2
 refine wp_loop_rounds 1 ?_;rw[rounds_succ]
 go_wp2
 go_end0
 exact⟨rfl,rfl⟩
set_option maxRecDepth 100000 in
def Km(p:Option Addr)(cap:Nat)(lim:Int)(fv:Value)(w:World):
 Calls prog 238 #[.slice p 0 cap,.int .i64 0,.int .i64 0,.int .i64 lim,fv] w λe w'=>e=.returned (.tuple #[])/\w'=w:=by
 have hi:=λW=>J9 p cap fv W
 go_enter func238,Tryz.ntmps238
 go_wp2
 refine wp_loop_rounds 1 ?_;rw[rounds_succ]
 go_wp2_with (go_at_call 287;refine(hi _).mono ?_;rintro e w' ⟨rfl,rfl⟩)
 (try simp only[Exit.inBlock,Exit.then])
 refine bodyPost_ret (results_none rfl _ _ _) rfl ?_;exact⟨rfl,rfl⟩
set_option maxRecDepth 100000 in
def Ie(p:Option Addr)(cap:Nat)(fv:Value)(w:World):
 Calls prog 156 #[.slice p 0 cap,fv] w λe w'=>e=.returned (.tuple #[])/\w'=w:=by
 have hp:=λlim W=>Km p cap lim fv W
 have hl:∀W,Calls prog 127 #[.int .u64 0] W λe w'=>e=.returned (.int .i64 (Lib.bitLen 0:Nat))/\w'=W:=λW=>
  Any.bits_Len (SlLaysF0.n15.bits (P:=prog) (ρ:=qF) { xM with }) 0 W ii ii
 go_enter func156,Tryz.ntmps156
 go_wp2_with (first | (go_at_call 127;refine(hl _).mono ?_;rintro e w' ⟨rfl,rfl⟩) | (go_at_call 238;refine(hp _ _).mono ?_;rintro e w' ⟨rfl,rfl⟩))
 go_end0
 exact⟨rfl,rfl⟩
abbrev TF:=Int×ByteArray×ByteArray
def mb(x:TF):List Value:=[.int .i64 x.1,.string x.2.1,.string x.2.2]
def jf(x:TF):aB:=⟨x.1,kL x.2.1,kL x.2.2⟩
def UO(x y:TF):Int:=BK (zb x.1 y.1) (jR x.2.1 y.2.1) (jR x.2.2 y.2.2)
def aB.av(f:aB):List AV:=[.int .i64 f.kind,.str f.part,.str f.name]
def tS(x y:ByteArray):Op.bytesLess x.toList y.toList=fO (kL x) (kL y):=by
 unfold kL;simp only[ByteArray.toList_eq];exact(pc _ _).symm
def F0(x y:ByteArray):(x.toList==y.toList)=decide (kL x=kL y):=by
 unfold kL;simp only[ByteArray.toList_eq];by_cases h:x.data.toList=y.data.toList
 ·rw[h];simp
 ·have:¬x.data.toList.map (·.toNat)=y.data.toList.map (·.toNat):=λhe=>h (List.map_inj_right (λx y=>UInt8.toNat_inj.1) |>.1 he);have h2:¬x.data=y.data:=λe=>h (by rw[e]);simp[h2,this]
def Ea(x y:TF):ltOf UO x y=Ay (jf x) (jf y):=by
 have e1:jR x.2.1 y.2.1=if fO (jf x).part (jf y).part=true then -1 else if (jf x).part=(jf y).part then 0 else 1:=by
  unfold jR;rw[tS,F0];simp only[wp];rfl
 have e2:jR x.2.2 y.2.2=if fO (jf x).name (jf y).name=true then -1 else if (jf x).name=(jf y).name then 0 else 1:=by
  unfold jR;rw[tS,F0];simp only[wp];rfl
 unfold ltOf UO Ay;rw[e1,e2,show x.1=(jf x).kind from rfl,show y.1=(jf y).kind from rfl];generalize jf x=a;generalize jf y=b;unfold BK zb
 rcases ct a.kind b.kind with h | h | h
 ·simp[h]
 ·have h1:¬a.kind<b.kind:=by omega
  have h2:¬b.kind<a.kind:=by omega
  cases g1:fO a.part b.part
  ·by_cases g2:a.part=b.part
   ·cases g3:fO a.name b.name
    ·by_cases g4:a.name=b.name<;>simp[h,g2,g4,dq]
    ·simp[h,g2,dq,g3]
   ·simp[h,g1,g2]
  ·simp[h,g1]
 ·have h1:¬a.kind<b.kind:=by omega
  have h2:¬a.kind=b.kind:=by omega
  simp[h,h1,h2]
def Wa:SWO (ltOf UO) where
 irrefl:=λx=>by rw[Ea];exact D8 _
 trans:=λx y z h1 h2=>by rw[Ea] at *;exact pb h1 h2
 ntrans:=λx y z h1 h2=>by
  rw[Ea] at *;cases h:Ay (jf x) (jf z)
  ·rfl
  ·rcases D9 (jf x) (jf y) with g | g | g
   ·rw[g] at h1;cases h1
   ·rw[g,h2] at h;cases h
   ·have:=pb g h;rw[h2] at this;cases this
def BR(FU off size:Nat)(w:World):CmpLays prog 76 #[] mb 3 UO FU off size w:=
 λ_ _ _ _ x y=>BQ x.1 y.1 x.2.1 x.2.2 y.2.1 y.2.2 _
def M8(x:TF):∀v∈mb x,v.oneCell'=true:=by
 intro v hv;simp[mb] at hv
 rcases hv with rfl | rfl | rfl<;>rfl
def U3:Option Value->ByteArray
 | some (.string s)=>s
 | _=>ByteArray.empty
def V3:Option Value->Int
 | some (.int _ n)=>n
 | _=>0
def Hn(c:Array Value)(d i:Nat):TF:=(V3 c[d+i*3]?,U3 c[d+i*3+1]?,U3 c[d+i*3+2]?)
def Nj{σ:Sg}{c:Array Value}{d:Nat}{ts:List aB}(hV:∀(i:Nat) (a:AV),(ts.map aB.av).flatten[i]?=some a->∃v,c[d+i]?=some v/\V σ a v){i:Nat}{t:aB}(ht:ts[i]?=some t):
 jf (Hn c d i)=t/\∀k,k<3->c[d+i*3+k]?=some (mb (Hn c d i))[k]!:=by
 have hw:∀r∈ts.map aB.av,r.length=3:=by intro r hr;obtain⟨t,_,rfl⟩:=mem_map.1 hr;rfl
 have hg:=(by rw[a6,ht];rfl:(ts.map aB.av)[i]?=some t.av);have h0:=pX hw hg (k:=0) ii;have h1:=pX hw hg (k:=1) ii;have h2:=pX hw hg (k:=2) ii;obtain⟨v0,g0,V0⟩:=hV _ _ (h0.trans (show t.av[0]?=some (.int .i64 t.kind) from rfl));obtain⟨v1,g1,V1⟩:=hV _ _ (h1.trans (show t.av[1]?=some (.str t.part) from rfl));obtain⟨v2,g2,V2⟩:=hV _ _ (h2.trans (show t.av[2]?=some (.str t.name) from rfl));rw[em] at g0;rw[<-Nat.add_assoc] at g1 g2;cases V0
 cases V1 with
 | @str _ s0 e0=>cases V2 with
  | @str _ s1 e1=>
   have hrd:Hn c d i=(t.kind,s0,s1):=by unfold Hn;rw[g0,g1,g2];rfl
   rw[hrd];refine⟨?_,λk hk=>?_⟩
   ·unfold jf kL;simp only[e0,e1]
   ·match k,hk with
    | 0,_=>rw[em];exact g0
    | 1,_=>exact g1
    | 2,_=>exact g2
def Ig(ts:List aB)(id bQ:Nat)(h:Ev.H)(ho:h.aU.get id=some (.cells (ts.map aB.av).flatten bQ))(hne:ts≠[])(hlen:ts.length<=1000000):
 ef prog (.func 156) [.slice (some (id,0)) ts.length 3 none,.fn (.func 76) [] []] h (λr h'=>r=.cq []/\∃ts':List aB,ts'.Perm ts/\(ts'.Pairwise λa b=>Ay b a=false)/\h.store id 0 (ts'.map aB.av).flatten=some h'):=by
 intro σ w args' hv hr;obtain⟨x,y,rfl,hx,hy⟩:=FP hv
 cases hy with
 | @fn _ _ _ fs' cs' hfy k1 k2 k3 k4=>
 have hfs:fs'=#[]:=b9 (by rw[<-k1];rfl);have hcs:cs'=#[]:=b9 (by rw[<-k3];rfl);subst hfs;subst hcs
 have hw0:∀r∈ts.map aB.av,r.length=3:=by intro r hr;obtain⟨t,_,rfl⟩:=mem_map.1 hr;rfl
 rw[ei dz func156 g9]
 have hpos:0<ts.length:=by
  cases ts with
  | nil=>exact ul rfl hne
  | cons=>exact Nat.succ_pos _
 cases hx with
 | @slice _ _ _ _ _ a p c hs hl hrr hcc ha=>
 have ha:a=⟨p.b,p.d+0,none⟩:=ha.resolve_right ii;subst ha;obtain⟨q,carr,et,hq,hb,hsz,hlen',hVc⟩:=hr.cells ho;rw[hs] at hq;cases hq
 have hfl:(ts.map aB.av).flatten.length=ts.length*3:=by
  have:=jU (s:=3) hw0;rw[aj] at this;exact this
 have hpl:=hr.lt ho hs
 let d:Array TF:=Array.ofFn (n:=ts.length) λi=>Hn carr p.d i.1
 have hdsz:d.size=ts.length:=by simp[d]
 have hdi:∀i,i<ts.length->d[i]! = Hn carr p.d i:=λi hi=>by
  rw[getElem!_pos d i (by rw[hdsz];exact hi)];simp[d]
 have hspec:∀i,i<ts.length->ts[i]?=some (jf (Hn carr p.d i))/\∀k,k<3->carr[p.d+i*3+k]?=some (mb (Hn carr p.d i))[k]!:=λi hi=>
  have g:=Nj hVc (jp hi)
  ⟨by rw[jp hi,g.1],g.2⟩
 have hH:HoldsK mb 3 w p.b (p.d+0) d:=by
  intro j hj;rw[size_flatK,hdsz] at hj
  have hi:j/3<ts.length:=by omega
  have hk:j%3<3:=by omega
  rw[get_flatK _ _ _ _ (by rw[hdsz];exact hj),hdi _ hi];have:=(hspec _ hi).2 _ hk;refine⟨?_,vW hb⟩;rw[cell_of hb,show p.d+0+j=p.d+j/3*3+j%3 by omega];exact this
 have hmain:=AnyQ.slices_SortFunc xM 3 Tryz.isAgg65 Tryz.sizeOf65 mb (λ_=>rfl) M8 UO Wa 76 #[] p.b (p.d+0) c d w (enters_of func76 zW rfl)
  (BR p.b (p.d+0) d.size w) hH hpl (by rw[hdsz];omega)
 rw[hdsz] at hmain;change Calls prog 156 _ _ _ at hmain;refine Calls.mono hmain ?_;rintro e w' ⟨rfl,d',n,os,⟨hp1,_,hp3⟩,hsorted,rfl⟩;rw[hdsz] at hp1
 have hdl:d.toList.map jf=ts:=by
  apply List.ext_getElem?;intro i;by_cases hi:i<ts.length
  ·rw[a6,cl,b6 (by rw[hdsz];exact hi),m6,(hspec i hi).1]
   congr 2
   have:=hdi i hi;rw[getElem!_pos d i (by rw[hdsz];exact hi)] at this;exact this
  ·rw[ci (by simp[hdsz];omega),ci ii]
 have hex:∀a:Array TF,a.size=ts.length->(a.extract 0 ts.length).toList=a.toList:=λa ha=>by
  rw[Array.toList_extract,List.extract_eq_take_drop,d8,Nat.sub_zero,b8 (by simp[ha])]
 rw[hex _ hp1,hex _ hdsz] at hp3
 have hperm:(d'.toList.map jf).Perm ts:=by rw[<-hdl];exact hp3.map _
 have hsx:(d'.toList.map jf).Pairwise λa b=>Ay b a=false:=by
  rw[List.pairwise_iff_getElem];intro i j hi hj hij;rw[aj,co] at hi hj;have:=hsorted i j (aS _) hij ii;rw[getElem!_pos d' j hj,getElem!_pos d' i hi,Ea] at this;simp only[List.getElem_map,Array.getElem_toList];exact this
 have hlen2:(d'.toList.map jf).length=ts.length:=by rw[aj,co,hp1]
 have hw3:∀r∈(d'.toList.map jf).map aB.av,r.length=3:=by intro r hr;obtain⟨t,_,rfl⟩:=mem_map.1 hr;rfl
 have hb1:(putRowK mb 3 (Sort.ahead w n) p.b (p.d+0) d').heap[p.b]?=some (.cells (putCells _root_.id (p.d+0) (flatK mb 3 d') carr) et (0,0)):=by
  unfold putRowK putRow mapBlock;simp only[ck,if_true];rw[show(Sort.ahead w n).heap[p.b]?=some (.cells carr et (0,0)) from hb];rfl
 have hoth:∀b,b≠p.b->(putRowK mb 3 (Sort.ahead w n) p.b (p.d+0) d').heap[b]?=w.heap[b]?:=λb hbb=>by
  unfold putRowK putRow mapBlock;simp only[ck];rw[ut (λe=>hbb e.symm)];rfl
 have hVn:∀(i:Nat) (a:AV),((d'.toList.map jf).map aB.av).flatten[i]?=some a->∃v,(putCells _root_.id (p.d+0) (flatK mb 3 d') carr)[p.d+i]?=some v/\V σ a v:=by
  intro i a hia
  have hil:i<ts.length*3:=by
   have:=Pg hia;rw[jU hw3,aj,hlen2] at this;exact this
  have hj:i/3<d'.size:=by omega
  have hrow:((d'.toList.map jf).map aB.av)[i/3]?=some (jf d'[i/3]!).av:=by
   rw[a6,a6,cl,b6 hj,getElem!_pos d' _ hj];rfl
  have hat:=pX hw3 hrow (k:=i%3) ii;rw[show i/3*3+i%3=i by omega,hia] at hat
  have hcl:p.d+i<carr.size:=by omega
  have hput:(putCells _root_.id (p.d+0) (flatK mb 3 d') carr)[p.d+i]?=some ((mb d'[i/3]!)[i%3]!):=by
   unfold putCells;rw[Array.getElem?_mapIdx,b6 hcl,m6,un ⟨by omega,by rw[size_flatK];omega⟩];rw[show p.d+i-(p.d+0)=i by omega,get_flatK _ _ _ _ ii];rfl
  refine⟨_,hput,?_⟩;generalize d'[i/3]! = x at hat
  have h3:i%3=0\/i%3=1\/i%3=2:=by omega
  rcases h3 with e | e | e<;>rw[e] at hat ⊢
  ·cases hat;exact .int _ _
  ·cases hat;exact .str rfl
  ·cases hat;exact .str rfl
 obtain⟨r1,r2⟩:=hr.rewrite ho hs (cs':=((d'.toList.map jf).map aB.av).flatten) (by rw[jU hw3,aj,hlen2,hfl]) hb hb1 (by unfold putCells;rw[Array.size_mapIdx]) hVn hoth (by unfold putRowK putRow mapBlock;simp[Sort.ahead]) rfl rfl rfl
 have hbel:Below (putRowK mb 3 (Sort.ahead w n) p.b (p.d+0) d').heap.size (putRowK mb 3 (Sort.ahead w n) p.b (p.d+0) d') (grow (putRowK mb 3 (Sort.ahead w n) p.b (p.d+0) d') os):=
  ⟨rfl,rfl,rfl,by rw[size_grow];omega,λk hk=>by unfold grow;simp only;rw[Array.getElem?_append_left hk]⟩
 have hkeep:=sU r1 hbel;refine⟨_,rfl,.cq [],_,⟨rfl,d'.toList.map jf,hperm,hsx,?_⟩,σ,V.mg,hkeep.1,r2.trans hkeep.2⟩
 have hfl2:((d'.toList.map jf).map aB.av).flatten.length=(ts.map aB.av).flatten.length:=by rw[jU hw3,aj,hlen2,hfl]
 have hone:((d'.toList.map jf).map aB.av).flatten.all kq=true:=by
  rw[List.all_eq_true];intro x hx;rw[List.mem_flatten] at hx;obtain⟨r,hr1,hr2⟩:=hx;obtain⟨k,_,rfl⟩:=mem_map.1 hr1;unfold aB.av at hr2;simp only[ca,bv,or_false] at hr2
  rcases hr2 with rfl | rfl | rfl<;>rfl
 unfold H.store;rw[ho];simp only;rw[hfl2,Nat.zero_add,fj (ap _),hone,Bool.and_self,ar,take_zero,nil_append,List.drop_of_length_le (ap _),bw]
def DW:∀l:List aB,ji (l.flatMap aL)=some (l.map aB.av).flatten
 | []=>rfl
 | a::l=>by
  show ji (ab a.kind::ah a.part::ah a.name::l.flatMap aL)=_;rw[ji,ji,ji,DW l];rfl
def Lz:∀l:List aB,(l.flatMap aL).all fq=true
 | []=>rfl
 | a::l=>by rw[c2,List.all_append,Lz l];rfl
def xl{l ks:List aB}(hp:ks.Perm l)(hn:l.Nodup)(hs:ks.Pairwise λa b=>Ay b a=false):ks=iG l:=by
 have h1:=sd hn;have hk:ks.Nodup:=hp.nodup_iff.2 hn
 have h2:ks.Pairwise λa b=>Ay a b=true:=by
  refine List.Pairwise.imp₂ ?_ hs hk;intro a b h e
  rcases D9 a b with k | k | k
  ·exact k
  ·exact ul k e
  ·rw[h] at k;cases k
 exact Perm.eq_of_pairwise (λa b _ _ h3 h4=>by have:=pb h3 h4;rw[D8] at this;cases this) h2 h1 (hp.trans (gk l).symm)
def iM(f:aB):(aL f).length=3:=rfl
def dk(f:aB):bZ (aL f)=true:=rfl
def Ii(l:List aB)(hlen:l.length<=1000000)(hne:l≠[])(hn:l.Nodup):SC prog 156 [.buf 0 l.length 3 none,.fn 76 [] []] [.cells (l.flatMap aL)] [] (λr S'=>r=.cq []/\S'=[.cells ((iG l).flatMap aL)]):=by
 refine SC.row (by rw[bg iM,bg iM,(gk l).length_eq]) (λθ ρ xs hx=>mH hx (Lz _)) ?_;intro E θ ρ h avs asx bQ hl hR hA ho hV _;have has:=oQ hV (DW l);subst has;rw[aM] at hA;obtain⟨a,r,rfl,hA1,hA⟩:=hA;rw[aM] at hA;obtain⟨b,r,rfl,hA2,hA⟩:=hA;rw[bj] at hA;subst hA;rw[VS] at hA1;rw[VS] at hA2;subst hA1;obtain⟨xs,ys,rfl,hxs,hys⟩:=hA2;rw[bj] at hxs;subst hxs;rw[bj] at hys;subst hys;refine(Ig l _ _ h ho hne hlen).mono ?_;rintro v h' ⟨rfl,ts',hp,hs,hst⟩;have:=xl hp hn hs;subst this;refine⟨by rw[VS];exact⟨[],rfl,by rw[bj]⟩,_,?_,hst⟩;exact uk (DW _)
def Fs(h:Ev.H):ef prog (.func 156) [.slice none 0 0 (some 0),.fn (.func 76) [] []] h (λr h'=>r=.cq []/\h'=h):=by
 intro σ w args' hv hr;obtain⟨x,y,rfl,hx,hy⟩:=FP hv;rw[ei dz func156 g9]
 cases hx with
 | iF hl=>
  refine Calls.mono (Ie _ _ y w) ?_;rintro e w' ⟨rfl,rfl⟩;exact⟨_,rfl,.cq [],h,⟨rfl,rfl⟩,σ,V.mg,hr,Ext.refl _ _ _⟩
def Ih:PC prog 156 [bF,.fn 76 [] []] (·=.a (.cq [])):=by
 intro ρ h avs _ hA;rw[dS] at hA;obtain⟨a,r,rfl,hA1,hA⟩:=hA;rw[dS] at hA;obtain⟨b,r,rfl,hA2,hA⟩:=hA;rw[e7] at hA;subst hA;rw[GS] at hA1;subst hA1;rw[GS] at hA2;obtain⟨xs,ys,rfl,hxs,hys⟩:=hA2;rw[e7] at hxs;subst hxs;rw[e7] at hys;subst hys;refine(Fs h).mono ?_;rintro v h' ⟨rfl,rfl⟩;exact⟨_,ρ,rfl,.refl _ _,λid ob hi=>.inl hi,by rw[GS]⟩
def cX(f:aB):AV:=.agg f.av
def aB.eq(a b:aB):gn eK a.av b.av=decide (a=b):=by
 obtain⟨a1,a2,a3⟩:=a;obtain⟨b1,b2,b3⟩:=b;simp only[aB.av,gn,eK,BE,ta,lU,cd,c0,aB.mk.injEq,dv]
def HX:Keys prog 65 cX:=
 wb (ks:=[.i .i64,.s,.s]) zW (by simp only[aH,m6]) (λ_=>rfl) aB.eq λ_=>rfl
def Ko{S:List SO}{o:Nat}{l:List (aB×Bool)}(n:Int)(a b:List Nat)(u:Bool)(hS:S[o]?=some (bD cX ak l)):iR prog S 99 (.map o) (.ag [ab n,ah a,ah b]) (.a (.bool u))=some (S.set o (bD cX ak (cu (⟨n,a,b⟩:aB) u l))):=
 JD (uv:=ak) (k:=(⟨n,a,b⟩:aB)) (kt:=65) (et:=4) (by simp only[aH]) HX hS rfl u
def bn{n:Nat}{l:List (aB×Bool)}:cI n (bD cX ak l)=bD cX ak l:=mO λ_=>mA _
def SI(f:aB):ve (cX f)=.ag [ab f.kind,ah f.part,ah f.name]:=rfl
def jN(l:List aB):SO:=if l=[] then .gone else .cells (l.flatMap aL)
def JA{l:List aB}(h:¬l=[]):jN l=.cells (l.flatMap aL):=ut h
def He:jN []=.gone:=rfl
def uR(r:Nat->Nat)(l:List aB):qo r (jN l)=jN l:=by
 unfold jN;split
 ·rfl
 ·rw[LP];congr 1;exact br (aA dk l)
def rV(o:Nat)(l:List aB):cI o (jN l)=jN l:=by
 unfold jN;split
 ·rfl
 ·rw[cI];congr 1;exact bV (aA dk l)
def tP(B:Nat)(l:List aB):mX B (jN l)=true:=by
 unfold jN;split
 ·rfl
 ·rw[mX];exact bK (aA dk l)
def Kf(L:List (aB×Bool)):PC prog 75 [mw cX ak L] (·=.fn 157 [] [.ip [mw cX ak L]]):=by
 refine pB 4 Tryz.func75 ?_;refine(zV) ?_;refine zZ [(1,.ip [mw cX ak L])] 0 rfl (gV @an.eq_1) ?_
 (try change aE _ _ _ _ _)
 exact(zV)<|zo [.tmp 2]
def iy(lc:jP):SO:=.loop lc .ready none [(2,.ptr 1 0)]
def Ap(o:Nat)(lc:jP)(h:¬1=o):cI o (iy lc)=iy lc:=by
 simp[iy,cI,eU,bf,Ev.names,h]
def tI(lc:jP):Prop:=(prog.funcs[(237:Nat)]?.bind λfn=>fn.body.bind vS)=some (lc.a,lc.b)
def HZ(L:List (aB×Bool))(lc:jP)(hcd:tI lc)(hln:lc.n=13)(hlp:lc.ps=#[7])(hlen:L.length<=100000)(hnd:(L.map (·.1)).Nodup):
 SC prog 157 [.a (.fn (.yield lc.id) [] []),.ip [mw cX ak L]] [iy lc,.cells [bF],.gone] [2] (λr S'=>r=.cq []/\∃out:List aB,out.Perm (L.map (·.1))/\S'=[iy lc,.cells [cj 2 3 out.length],jN out]):=by
 refine VI 14 func157 ?_;have hk3:=Ap 3 lc gt;have hk4:=Ap 4 lc gt;have hn4:=λn=>cx (p:=4) (o:=2) (e:=3) (n:=n) gt;refine(zC) ?_;refine aR.VE (ks:=L.map λe=>cX e.1) (vs:=L.map λe=>ak e.2) g9 rfl rfl g9 rfl (by simp only[aH]) ?_;intro bs c hbs;refine aR.r0 g9 (by simp only[dD,bY,an,aH,m7,m6,↓reduceIte,ad,af,am,ac,al,ar,aw,bP,↓hk3];first | done | rfl) ?_
 (repeat refine aE.seq ?_)
 refine aE.block (aE.loop (λm st=>∃pos:List Nat,pos.Nodup/\(∀j∈pos,j<L.length)/\L.length-pos.length=m/\st=⟨[(0,.a (.fn (.yield lc.id) [] [])),(5,.ptr 3 0),(1000000,.ptr 0 0),(1000001,.ptr 1 0)],14,[iy lc,.cells [cj 2 3 (bp L pos).length],jN ((bp L pos).map (·.1)),.pI (L.map λe=>cX e.1) (L.map λe=>ak e.2) bs c pos],[]⟩) L.length (bN (wS @bp.eq_1 @List.filterMap_nil.{0,0} @map_nil.{0,0} @i5.{0} @lX @He)) ⟨[],a7,λj hj=>by simp at hj,rfl,rfl⟩ (by rintro m st ⟨pos,_,_,_,rfl⟩;rfl) ?_);rintro m st ⟨pos,hpn,hpl,rfl,rfl⟩;refine aE.post ?_;refine(zC) ?_;refine aR.VB g9 rfl rfl g9 rfl rfl (λj hj=>by rw[aj];exact hpl j hj) ?_ ?_
 ·intro hall
  refine(zR)<|(gE) ?_;refine⟨⟨[(1000000,.ptr 0 0),(1000001,.ptr 1 0)],14,[iy lc,.cells [cj 2 3 (bp L pos).length],jN ((bp L pos).map (·.1))],[]⟩,zH,?_⟩
  simp only[e8,df,bW,bI,if_true];exact zP [] (hq:=by (try simp only[eI,bG]);first | done | (exact⟨trivial,(bp L pos).map (·.1),(nj hpn hpl (λj hj=>hall j (by rw[aj];exact hj))).map _,by rw[aj]⟩))
 ·intro j hj hjn;rw[aj] at hj;obtain⟨e,he⟩:∃e,L[j]?=some e:=⟨L[j],jp hj⟩;obtain⟨q1,q2,q3⟩:=rj hpn hpl hj hjn;have hsn:=lG L pos he
  refine(zR)<|(gO)<|(zC) ?_;refine aR.Vw (k:=cX e.1) (v:=ak e.2) g9 rfl rfl g9 rfl rfl (by rw[a6,he];rfl) (by rw[a6,he];rfl) ?_;refine aR.r0 g9 (by simp only[dD,bY,an,aH,m7,m6,↓reduceIte,ad,af,am,ac,al,ar,aw,bP,SI,↓hk4,hn4,rV];first | done | rfl) ?_;refine(fC @aL.eq_1) ?_;refine oA [(10,.a (.fn (.yield lc.id) [] [])),(11,.ag (aL e.1)),(0,.a (.fn (.yield lc.id) [] [])),(5,.ptr 3 0),(1000000,.ptr 0 0),(1000001,.ptr 1 0)] [iy lc,.cells [cj 2 3 (bp L pos).length],jN ((bp L pos).map (·.1)),.pI (L.map λe=>cX e.1) (L.map λe=>ak e.2) bs c (pos++[j])] (Fg.less (by (simp only[dD,bY,fQ,↓reduceIte,ad,aL,↓hk4,hn4,rV])<;>(repeat' apply be)<;>first | rfl | trivial) (by (simp only[dD,bY,or_true,true_or,aL,↓hk4,hn4,rV])<;>(repeat' apply be)<;>first | exact .inr rfl | exact .inl rfl | trivial)) ?_;refine aR.y (vs:=[.ag (aL e.1)]) (oo:=0) g9 rfl rfl g9 rfl rfl rfl g9 rfl (by rw[hlp];rfl) (by rw[hln];rfl) (by rw[hln];decide) (by rw[hlp,hln];rfl) λro'=>?_
  have hcd2:=hcd;unfold tI at hcd2;rw[dl] at hcd2;have hcd3:=Option.some.inj (hcd2.symm.trans g9);obtain⟨ha,hbb⟩:=Prod.mk.inj hcd3;rw[ha,hlp,hln];have hhl:(bp L pos).length=((bp L pos).map (·.1)).length:=(aj _).symm;rw[hhl]
  have hol:((bp L pos).map (·.1)).length<=100000:=by rw[<-hhl];exact a8 (b7 _ _) ii
  generalize hout:(bp L pos).map (·.1)=out at hol;change aE _ _ _ ⟨[(7,.ag (aL e.1)),(2,.ptr 1 0),(20000010,.a (.fn (.yield lc.id) [] [])),(20000011,.ag (aL e.1)),(20000000,.a (.fn (.yield lc.id) [] [])),(20000005,.ptr 3 0),(21000000,.ptr 0 0),(21000001,.ptr 1 0)],13,[iy lc,.cells [cj 2 3 out.length],jN out,.pI (L.map λe=>cX e.1) (L.map λe=>ak e.2) bs c (pos++[j])],[]⟩ _;refine(zs) ?_;refine aE.r0 g9 (by simp only[dD,bY,an,aH,m7,m6,↓reduceIte,ad,af,am,ac,al,ar,aw,bP,aL,↓hk4,hn4,rV];first | done | rfl) ?_;refine⟨rfl,0,none,[(2,.ptr 1 0)],rfl,?_⟩;rw[hbb];refine(zB) ?_;change aE _ _ _ ⟨_,13,[.loop lc .busy none [(2,.ptr 1 0)],.cells [cj 2 3 out.length],jN out,.pI (L.map λe=>cX e.1) (L.map λe=>ak e.2) bs c (pos++[j]),.cells [ab e.1.kind,ah e.1.part,ah e.1.name]],[]⟩ _;by_cases ho:out=[]
  ·have hE1:cj 2 3 (bp L (pos++[j])).length=.buf 2 1 3 none:=by rw[hsn,li,hhl,hout,ho];rfl
   have hE2:jN ((bp L (pos++[j])).map (·.1))=.cells [ab e.1.kind,ah e.1.part,ah e.1.name]:=by rw[hsn,bh,hout,ho];rfl
   rw[ho,He,show cj 2 3 ([]:List aB).length=bF from rfl];refine(zV) ?_;refine⟨rfl,0,.busy,none,[(2,.ptr 1 0)],rfl,?_⟩;simp only[zf,laid,ac,ay,↓reduceIte]
   refine oA [(12,ak true),(0,.a (.fn (.yield lc.id) [] [])),(5,.ptr 3 0),(1000000,.ptr 0 0),(1000001,.ptr 1 0)] [iy lc,.cells [.buf 2 1 3 none],.cells [ab e.1.kind,ah e.1.part,ah e.1.name],.pI (L.map λe=>cX e.1) (L.map λe=>ak e.2) bs c (pos++[j])] (Fg.rn (f':=[(12,ak true),(0,.a (.fn (.yield lc.id) [] [])),(5,.ptr 3 0),(1000000,.ptr 0 0),(1000001,.ptr 1 0)]) (n:=14) (S':=[iy lc,.cells [.buf 2 1 3 none],.cells [ab e.1.kind,ah e.1.part,ah e.1.name],.pI (L.map λe=>cX e.1) (L.map λe=>ak e.2) bs c (pos++[j])]) [0,1,6,3] gt rfl (NP (lB @iy.eq_1 @Bx.eq_1 @Bw.eq_1 @zk.eq_1 @zf.eq_1)) (NQ (lB @iy.eq_1 @Bx.eq_1 @Bw.eq_1 @zk.eq_1 @zf.eq_1)))<|(zR)<|(zN) ?_;exact⟨⟨[(0,.a (.fn (.yield lc.id) [] [])),(5,.ptr 3 0),(1000000,.ptr 0 0),(1000001,.ptr 1 0)],14,[iy lc,.cells [.buf 2 1 3 none],.cells [ab e.1.kind,ah e.1.part,ah e.1.name],.pI (L.map λe=>cX e.1) (L.map λe=>ak e.2) bs c (pos++[j])],[]⟩,(bN @iy.eq_1),L.length-(pos++[j]).length,_,by rw[li];simp only[i7,i5];omega,(bN (cL @iy.eq_1 hE1 hE2)),pos++[j],q1,q2,rfl,rfl⟩
  ·have hk1:¬out.length=0:=λh=>ho (t7 h)
   have hE1:cj 2 3 (bp L (pos++[j])).length=.buf 2 (out.length+1) 3 none:=by rw[hsn,li,hhl,hout];exact eF gc
   have hE2:jN ((bp L (pos++[j])).map (·.1))=.cells ((out++[e.1]).flatMap aL):=by rw[hsn,bh,hout];exact JA gc
   have hcl3:=bg iM out;have hkc3:=λo=>bC dk o out;have happ:=mI iM dk 2 out e.1;rw[show aL e.1=[ab e.1.kind,ah e.1.part,ah e.1.name] from rfl] at happ;rw[JA ho,eF hk1];refine(az (lB hkc3 hcl3 (show out.length<=1000000 by omega) @ap happ)) ?_;refine⟨rfl,0,.busy,none,[(2,.ptr 1 0)],rfl,?_⟩;simp only[zf,laid,ac,ay,↓reduceIte]
   refine oA [(12,ak true),(0,.a (.fn (.yield lc.id) [] [])),(5,.ptr 3 0),(1000000,.ptr 0 0),(1000001,.ptr 1 0)] [iy lc,.cells [.buf 2 (out.length+1) 3 none],.cells ((out++[e.1]).flatMap aL),.pI (L.map λe=>cX e.1) (L.map λe=>ak e.2) bs c (pos++[j])] (bN (lB @iy.eq_1 @zf.eq_1 @Bx.eq_1 @Bw.eq_1 @zk.eq_1))<|(zR)<|(zN) ?_;exact⟨⟨[(0,.a (.fn (.yield lc.id) [] [])),(5,.ptr 3 0),(1000000,.ptr 0 0),(1000001,.ptr 1 0)],14,[iy lc,.cells [.buf 2 (out.length+1) 3 none],.cells ((out++[e.1]).flatMap aL),.pI (L.map λe=>cX e.1) (L.map λe=>ak e.2) bs c (pos++[j])],[]⟩,(bN @iy.eq_1),L.length-(pos++[j]).length,_,by rw[li];simp only[i7,i5];omega,(bN (cL @iy.eq_1 hE1 hE2)),pos++[j],q1,q2,rfl,rfl⟩
def EI(L:List (aB×Bool))(hlen:L.length<=100000)(hnd:(L.map (·.1)).Nodup):SC prog 237 [bF,.fn 157 [] [.ip [mw cX ak L]]] [] [] (λr S'=>∃out:List aB,out.Perm (L.map (·.1))/\r=cj 0 3 out.length/\S'=[jN out,.gone]):=by
 refine SC.tQ (n:=13) dz dl rfl rfl gt (W:=[]) rfl gt ?_;refine(oL)<|zA [(2,.ptr 0 0),(6,.fn 157 [] [.ip [mw cX ak L]])] [.cells [bF],.gone] zH<|(zB) ?_;refine aE.uL (f1:=[(2,.ptr 0 0)]) dz g9 func157 g9 Wh ?_
 rintro N lc hid hn hps ha hb
 have hcd:tI lc:=by
  unfold tI;rw[dl,ha,hb];rfl
 have hsc:=HZ L lc hcd hn hps hlen hnd;refine⟨[3,0,1],_,_,_,_,hsc,?_,rfl,by decide,?_,?_⟩
 ·simp only[gJ,bY,dD,an,eU,bf,↓reduceIte,ad,af,ay,hid,List.map,d7,cons_append,nil_append]
  try rfl
 ·rintro(_ | _ | _ | i) so h
  ·cases h;exact⟨3,rfl,by rfl⟩
  ·cases h;exact⟨0,rfl,by rfl⟩
  ·cases h;exact⟨1,rfl,by rfl⟩
  ·cases h
 rintro r S' ⟨rfl,out,hp,rfl⟩
 have hbn:∀n:Nat,dG 3 (cj 2 3 n)=true:=λn=>by
  unfold cj;split
  ·exact gF rfl
  ·rfl
 have hrn3:∀(B n:Nat),qo (km [3,0,1] B) (.cells [cj 2 3 n])=.cells [cj 1 3 n]:=λB n=>by
  show SO.cells [fG _ _]=_;rw[dM];rfl
 refine⟨by simp only[iy,C5,gJ,bY,an,af,al,decide_true,↓tP,↓hbn];first | done | rfl,3,.ready,none,[(2,.ptr 0 0)],by rfl,by decide,by rfl,?_⟩
 have hS2:(dP (gy (gy [SO.cells [bF],SO.gone] (SO.nd N)) (SO.loop lc .ready none [(2,.ptr 0 0)])) [3,0,1] [2] [iy lc,.cells [cj 2 3 out.length],jN out]).set 3 .gone=[.cells [cj 1 3 out.length],jN out,.nd N,.gone]:=by
  simp only[dP,gy,eC,dg,gw,gU,i7,i5,List.map,aj,li,↓hrn3,↓uR];rfl
 rw[hS2];change aE _ _ _ ⟨[(2,.ptr 0 0)],13,[.cells [cj 1 3 out.length],jN out,.nd N,.gone],[{ fn:=none,FU:=N,args:=[],cap:=[] }]⟩ _;refine(zV) ?_;refine zA [(4,cj 0 3 out.length)] [jN out,.nd N] (Fg.rn (f':=[(4,cj 0 3 out.length)]) (n:=13) (S':=[jN out,.nd N]) [1,2] gt rfl (NP (bz @dM @uR)) (NQ (bz @dM @uR))) ?_;refine aE.ret ?_
 (try simp only[e8,df,bW,bI])
 exact⟨rfl,[(4,cj 0 3 out.length)],⟨rfl,trivial⟩,rfl,.inl ⟨rfl,1,rfl,⟨[cj 0 3 out.length],by rfl,out,hp,rfl,rfl⟩,aS _,λi hi=>ul hi (c5 _)⟩⟩
def sL(L:List (aB×Bool))(hlen:L.length<=100000)(hnd:(L.map (·.1)).Nodup):SC prog 155 [.fn 157 [] [.ip [mw cX ak L]]] [] [] (λr S'=>∃out:List aB,out.Perm (L.map (·.1))/\r=cj 0 3 out.length/\S'=[jN out,.gone]):=by
 refine Nl 5 Tryz.func155 ?_;refine(jM) ?_;refine aR.sc [] g9 rfl rfl g9 rfl zc (EI L hlen hnd) (by simp only[gJ,bY,an];first | done | rfl) rfl gt (λi so h=>by simp at h) ?_ ?_
 ·rintro r S' ⟨out,hp,rfl,rfl⟩;exact⟨fK 1 3 _,by simp only[C5,↓tP];first | done | rfl⟩
 ·rintro r S' ⟨out,hp,rfl,rfl⟩;have e1:fG (km [] ([]:List SO).length) (cj 0 3 out.length)=cj 0 3 out.length:=dM _ 0 3 _
  have e2:dP [] [] [] [jN out,.gone]=[jN out,.gone]:=by
   simp only[dP,dg,gw,gU,i7,i5,List.map,↓uR];rfl
  rw[e1,e2]
  refine oA [(4,cj 0 3 out.length)] [jN out,.gone] zH<|(zR)<|(zE) ?_;exact zP [.tmp 2] (hq:=by (try simp only[eI,bG]);first | done | (exact⟨out,hp,rfl,rfl⟩))
def AY{l out:List aB}(hp:out.Perm l)(hn:l.Nodup):iG out=iG l:=
 xl ((gk out).trans hp) hn ((sd (hp.nodup_iff.2 hn)).imp λ{a b} h=>by
  cases k:Ay b a with
  | false=>rfl
  | true=>have:=pb h k;rw[D8] at this;cases this)
def B6:SC prog 74 [.fn 157 [] [.ip [mw cX ak []]],.fn 76 [] []] [] [] (λr S'=>r=bF/\S'=[]):=by
 refine Nl 12 func74 ?_;refine(jM) ?_;refine aR.sc [] g9 rfl rfl g9 rfl zc (sL [] (aS _) a7) (by simp only[gJ,bY,an];first | done | rfl) rfl gt (λi so h=>by simp at h) ?_ ?_
 ·rintro r S' ⟨out,hp,rfl,rfl⟩;exact⟨fK 1 3 _,by simp only[C5,↓tP];first | done | rfl⟩
 ·rintro r S' ⟨out,hp,rfl,rfl⟩;obtain rfl:out=[]:=Perm.eq_nil hp
  refine oA [(7,bF),(1,.fn 76 [] [])] [] (bN (show fG (km [] ([]:List SO).length) (cj 0 3 ([]:List aB).length)=bF from rfl))<|(zR)<|(zC)<|(zK Ih)<|(zR)<|(zV)<|(zE) ?_;exact zP [.tmp 4]
def Fu(L:List (aB×Bool))(hlen:L.length<=100000)(hnd:(L.map (·.1)).Nodup)(hne:L≠[]):SC prog 74 [.fn 157 [] [.ip [mw cX ak L]],.fn 76 [] []] [] [] (λr S'=>r=.buf 0 L.length 3 none/\S'=[.cells ((iG (L.map (·.1))).flatMap aL)]):=by
 refine Nl 12 func74 ?_;refine(jM) ?_;refine aR.sc [] g9 rfl rfl g9 rfl zc (sL L hlen hnd) (by simp only[gJ,bY,an];first | done | rfl) rfl gt (λi so h=>by simp at h) ?_ ?_
 ·rintro r S' ⟨out,hp,rfl,rfl⟩;exact⟨fK 1 3 _,by simp only[C5,↓tP];first | done | rfl⟩
 ·rintro r S' ⟨out,hp,rfl,rfl⟩;have e1:fG (km [] ([]:List SO).length) (cj 0 3 out.length)=cj 0 3 out.length:=dM _ 0 3 _
  have e2:dP [] [] [] [jN out,.gone]=[jN out,.gone]:=by
   simp only[dP,dg,gw,gU,i7,i5,List.map,↓uR];rfl
  rw[e1,e2]
  have hol:out.length=L.length:=by rw[hp.length_eq,aj]
  have hon:out≠[]:=λe=>hne (t7 (by rw[<-hol,e];rfl));have hss:=Ii out ii hon (hp.nodup_iff.2 hnd);rw[AY hp hnd,hol] at hss;have hcs:∀(r:Nat->Nat) (q:List aB),nr r (q.flatMap aL)=q.flatMap aL:=λr q=>br (aA dk q);have hcb:∀(B:Nat) (q:List aB),je B (q.flatMap aL)=true:=λB q=>bK (aA dk q);have hck:∀(o:Nat) (q:List aB),(q.flatMap aL).map (bf o)=q.flatMap aL:=λo q=>bC dk o q;rw[JA hon,hol,eF (λh=>hne (t7 h))]
  refine oA [(7,.buf 0 L.length 3 none),(1,.fn 76 [] [])] [.cells (out.flatMap aL)] zH<|(zR)<|(zC) ?_;refine zS [0] (cL hcs hcb hck) hss ?_;refine(zR)<|(zV)<|(zE) ?_;exact zP [.tmp 4]
def sO(L:List (aB×Bool))(hlen:L.length<=100000)(hnd:(L.map (·.1)).Nodup):PC prog 30 [mw cX ak L] (·=an 3 (iG (L.map (·.1))) aL):=by
 refine pB 6 Tryz.func30 ?_;refine(jM)<|(zK (Kf L) (hfl:=.inr (bm.refl rfl))) ?_
 by_cases hn0:L=[]
 ·subst hn0
  refine zS [] trivial B6 ?_;exact(zR)<|zo [.tmp 2] (r:=an 3 ([]:List aB) aL) (hw:=.nil _)
 ·have hss:=Fu L hlen hnd hn0;have hcs:∀(r:Nat->Nat) (q:List aB),nr r (q.flatMap aL)=q.flatMap aL:=λr q=>br (aA dk q);have hcb:∀(B:Nat) (q:List aB),je B (q.flatMap aL)=true:=λB q=>bK (aA dk q);have hck:∀(o:Nat) (q:List aB),(q.flatMap aL).map (bf o)=q.flatMap aL:=λo q=>bC dk o q
  have hsl:(iG (L.map (·.1))).length=L.length:=by rw[(gk _).length_eq,aj]
  refine zS [] (cL hcs hcb hck) hss ?_;exact(zR)<|zo [.tmp 2] (r:=.sl L.length 3 ((iG (L.map (·.1))).flatMap aL)) (hw:=.buf rfl (by rw[<-hsl,eL iM];exact bm.refl (aA dk _)) (by rw[bg iM,hsl];exact ap _)) (hq:=by rw[tv,hsl])
abbrev eM(m:List (aB×Bool))(L:List aB):List (aB×Bool):=L.foldl (λm f=>cu f true m) m
def vZ(m:List (aB×Bool))(L:List aB)(f:aB):eM m (L++[f])=cu f true (eM m L):=by unfold eM;rw[List.foldl_append];rfl
def oV(m:List (aB×Bool))(L K:List aB):eM m (L++K)=eM (eM m L) K:=by unfold eM;rw[List.foldl_append]
def jd(r:Nat->Nat)(m:List (aB×Bool)):qo r (bD cX ak m)=bD cX ak m:=by
 unfold bD;rw[qo,br (qa (uv:=ak) (λ_=>rfl) m)]
def eW(B:Nat)(m:List (aB×Bool)):mX B (bD cX ak m)=true:=by
 unfold bD;rw[mX,bK (qa (uv:=ak) (λ_=>rfl) m)]
def mR(m0:List (aB×Bool))(kind:Int)(part:List Nat)(names:List (List Nat))(hlen:names.length<=1000000):
 SC prog 29 [.map 0,ab kind,ah part,an 1 names (aD ah)] [bD cX ak m0] [] (λr S'=>r=.cq []/\S'=[bD cX ak (eM m0 (names.map λn=>⟨kind,part,n⟩))]):=by
 refine Qt 22 Tryz.func29 ?_;refine(zV)<|(zs) ?_;refine zL names (λk=>True) (λk=>[(0,.map 0),(1,ab kind),(2,ah part),(10,an 1 names (aD ah)),(11,ab names.length),(12,ab k),(1000000,.ptr 0 0)]) (λk=>[bD cX ak (eM m0 ((names.take k).map λn=>⟨kind,part,n⟩))]) (bN (cL @take_zero.{0} @map_nil.{0,0} @foldl_nil.{0,0})) zp ?_;intro k hk hall;refine zT names k ?_ ?_;rintro rfl;rotate_left;intro n hx hlt;rotate_left
 ·refine(gE) ?_;simp only[e8,df,bW,bI,if_true];rw[ba];exact zP []
 refine(gO) ?_;obtain⟨M,hM⟩:∃M,M=eM m0 ((names.take k).map λn=>⟨kind,part,n⟩):=⟨_,rfl⟩
 have hnx:eM m0 ((names.take (k+1)).map λn=>⟨kind,part,n⟩)=cu ⟨kind,part,n⟩ true M:=by rw[c8 hx,bh,bi,map_nil,vZ,<-hM]
 rw[<-hM];clear hM
 refine(az (cL hlt (aQ (e:=1) (enc:=aD ah) (λ_=>rfl) hx) @aD.eq_1))<|(zs) ?_;refine aE.r0 g9 (by simp only[dD,bY,an,aH,m7,m6,↓reduceIte,ad,af,am,ac,al,ar,aw,bP,Ko (l:=M)];first | done | rfl) ?_;refine(az (zi hlt hlen)) ?_;refine zX hlt (bN hnx) trivial
def Mw(l:List (List Nat)):(sz l).length<=l.length:=by
 have:∀n (l:List (List Nat)),l.length=n->(sz l).length<=l.length:=by
  intro n
  induction n with
  | zero=>intro l h;rw[t7 h];exact ap _
  | succ n ih=>
   intro l h
   rcases List.eq_nil_or_concat l with rfl | ⟨a,x,rfl⟩
   ·exact ap _
   ·have ha:a.length=n:=by simpa using h
    have:=ih a ha;rw[List.concat_eq_append,IZ];split<;>simp<;>omega
 exact this _ l rfl
structure sQ (b:eg):Prop where
 gb:∀r∈b.rules,gK r.cond
 AL:∀r∈b.cM,gK r.cond
 Rw:∀d∈b.eu,Dk d
 hold:∀h∈b.holds,h.members.length<=1000000/\h.back.length<=1000000
 lr:b.rules.length<=100
 lc:b.cM.length<=100
 ld:b.eu.length<=100
 lh:b.holds.length<=100
 ls:b.fw.length<=1000000
 lx:b.oy.length<=1000000
def gq(r:jE):cF r=[ah r.name,ah r.kind,ab r.cond.op,ah r.cond.name,ah r.cond.value,ab r.cond.n,ab r.cond.extra,.sl r.cond.kids.length 6 (r.cond.kids.flatMap aX)]:=by
 unfold cF;rw[cw]
def qQ(r:jE):(cF r).length=8:=by rw[gq];rfl
def uU(b:eg)(ps:List ai)(day:Int)(p:ai)(r:jE):Bool:=decide (r.kind=p.kind)&&(!tY b.oy p.name r.name day&&!(decide (kO ps r.cond p.name day=2)))
def od(ps:List ai)(day:Int)(p:ai)(r:jE):Bool:=decide (r.kind=p.kind)&&!(decide (kO ps r.cond p.name day=0))
def Gh{m:List (aB×Bool)}{q:jE->Bool}{g:jE->aB}{l:List jE}{k:Nat}{r:jE}(h:l[k]?=some r):eM m (((l.take (k+1)).filter q).map g)=if q r=true then cu (g r) true (eM m (((l.take k).filter q).map g)) else eM m (((l.take k).filter q).map g):=by
 rw[c8 h,ch,c4,filter_nil];split
 ·rw[bh,bi,map_nil,vZ]
 ·rw[bw]
def Hf(ds:List ea)(c:List aK)(l:List aV)(part:List Nat)(day:Int):(iE ds c l part day).length<=ds.length:=by
 unfold iE No;refine a8 (Mw _) ?_;rw[(sH _).length_eq,aj];refine a8 (bd _ _) ?_;unfold rh;split
 ·exact aS _
 ·split
  ·exact aS _
  ·exact b7 _ _
abbrev rF(c:List aK)(dmg:bo)(b:eg)(l:List aV)(ps:List ai)(day:Int)(p:ai):Fm:=[(7,.ip (ae p)),(1,.ip (aN b)),(2,.ip [ab day]),(3,.ip [an 14 ps ae]),(4,.ptr 0 0),(5,.ip (an 3 c aq::aC dmg)),(6,.ip [an 14 l ao]),(1000000,.ptr 0 0),(1000001,.ptr 1 0)]
def HE(c:List aK)(dmg:bo)(b:eg)(l:List aV)(ps:List ai)(day:Int)(p:ai)(m0:List (aB×Bool))(hb:sQ b)(hc:mS c)(hl:l.length<20)(hle:∀e∈l,lP e)(hps:ps.length<=100000)(hpr:∀p∈ps,p.props.length<=1000000):
 SC prog 31 [.ag (ae p),.ip (aN b),.ip [ab day],.ip [an 14 ps ae],.ptr 0 0,.ip (an 3 c aq::aC dmg),.ip [an 14 l ao]] [.cells [.map 1],bD cX ak m0] [] (λr S'=>r=.cq []/\S'=[.cells [.map 1],bD cX ak (eM m0 (ou c b l ps day p))]):=by
 refine Tw 113 Tryz.func31 ?_;refine(zV) ?_;refine zZ (rF c dmg b l ps day p) 2 rfl (gV (bz @an.eq_1 @ae.eq_1))<|zA (rF c dmg b l ps day p) [.cells [.map 1],bD cX ak m0] (bN @bn)<|(az @aN.eq_1) ?_
 have hlr:b.rules.length<=1000000:=a8 hb.lr gt;have hlc:b.cM.length<=1000000:=a8 hb.lc gt;rw[show ou c b l ps day p=((b.rules.filter (uU b ps day p)).map λr=>⟨1,p.name,r.name⟩)++(((b.cM.filter (od ps day p)).map λr=>⟨5,p.name,r.name⟩)++((iE b.eu c l p.name day).map (λn=>⟨3,p.name,n⟩)++(if gA c b.fw ps p.name day=true then [] else [⟨2,p.name,p.slot⟩]))) from rfl,oV,oV,oV]
 refine zA ((13,an 8 b.rules cF)::(14,ab b.rules.length)::(15,ab 0)::rF c dmg b l ps day p) [.cells [.map 1],bD cX ak m0] zH<|(zs) ?_;refine zL b.rules (λk=>True) (λk=>(13,an 8 b.rules cF)::(14,ab b.rules.length)::(15,ab k)::rF c dmg b l ps day p) (λk=>[.cells [.map 1],bD cX ak (eM m0 (((b.rules.take k).filter (uU b ps day p)).map λr=>⟨1,p.name,r.name⟩))]) (bN (gh @take_zero.{0} @filter_nil.{0} @map_nil.{0,0} @foldl_nil.{0,0})) zp ?_;intro k hk hall;refine zT b.rules k ?_ ?_;rintro rfl;rotate_left;intro r hx hlt;rotate_left
 rotate_left
 ·obtain⟨M,hM⟩:∃M,M=eM m0 (((b.rules.take k).filter (uU b ps day p)).map λr=>⟨1,p.name,r.name⟩):=⟨_,rfl⟩;have hnx:=Gh (m:=m0) (q:=uU b ps day p) (g:=λr=>⟨1,p.name,r.name⟩) hx;rw[<-hM] at hnx ⊢;clear hM;have hre:=gq r;have hh:=xv ps r.cond p.name day hps hpr (hb.gb r (bb hx));rw[cw] at hh;have hadd:=mR M 1 p.name [r.name] (by show 1<=1000000;decide);rw[show eM M ([r.name].map λn=>(⟨1,p.name,n⟩:aB))=cu ⟨1,p.name,r.name⟩ true M from rfl] at hadd
  refine(gO)<|(az (gh hlt (aQ (e:=8) (enc:=cF) qQ hx) hre @bn))<|zA ((9,.ptr 2 0)::(13,an 8 b.rules cF)::(14,ab b.rules.length)::(15,ab k)::rF c dmg b l ps day p) [.cells [.map 1],bD cX ak M,.cells [ah r.name,ah r.kind,ab r.cond.op,ah r.cond.name,ah r.cond.value,ab r.cond.n,ab r.cond.extra,.sl r.cond.kids.length 6 (r.cond.kids.flatMap aX)]] (bN @bn) ?_
  cases g1:decide (r.kind=p.kind)
  ·rw[ut (by unfold uU;rw[g1];simp)] at hnx
   refine(az (bz g1 @ae.eq_1))<|(zN)<|(az (zi hlt hlr)) ?_;refine zX hlt (bN hnx) trivial
  refine(fC (cL g1 @ae.eq_1 @aN.eq_1))<|(zK (EV b.oy p.name r.name day hb.lx)) ?_
  cases g2:tY b.oy p.name r.name day;rotate_left
  ·rw[ut (by unfold uU;rw[g2];simp)] at hnx
   refine(zR)<|(zN)<|(az (zi hlt hlr)) ?_;refine zX hlt (bN hnx) trivial
  refine(NV @ae.eq_1)<|(zK hh) ?_
  cases g3:decide (kO ps r.cond p.name day=2);rotate_left
  ·rw[ut (by unfold uU;rw[g3];simp)] at hnx
   refine(cH g3)<|(zN)<|(az (zi hlt hlr)) ?_;refine zX hlt (bN hnx) trivial
  rw[un (by unfold uU;rw[g1,g2,g3];rfl)] at hnx
  refine(cH g3)<|(zY)<|(fC (bz @ae.eq_1 @bn)) ?_;refine oZ ((50,an 1 [r.name] (aD ah))::(47,ah p.name)::(45,.map 1)::(13,an 8 b.rules cF)::(14,ab b.rules.length)::(15,ab k)::rF c dmg b l ps day p) 3 rfl ⟨.inr (.buf rfl (bm.refl rfl) (ap _)),zj⟩<|oA ((50,an 1 [r.name] (aD ah))::(47,ah p.name)::(45,.map 1)::(13,an 8 b.rules cF)::(14,ab b.rules.length)::(15,ab k)::rF c dmg b l ps day p) [.cells [.map 1],bD cX ak M] (bN @bn) ?_;refine zS [1] (cL @bn @jd @eW) hadd ?_;refine(zR)<|(az (zi hlt hlr)) ?_;refine zX hlt (bN hnx) trivial
 refine(gE) ?_;simp only[e8,df,bW,bI,if_true];rw[ba];generalize eM m0 ((b.rules.filter (uU b ps day p)).map λr=>⟨1,p.name,r.name⟩)=m1
 refine(az @aN.eq_1)<|zA ((54,an 8 b.cM cF)::(55,ab b.cM.length)::(56,ab 0)::rF c dmg b l ps day p) [.cells [.map 1],bD cX ak m1] zH<|(zs) ?_;refine zL b.cM (λk=>True) (λk=>(54,an 8 b.cM cF)::(55,ab b.cM.length)::(56,ab k)::rF c dmg b l ps day p) (λk=>[.cells [.map 1],bD cX ak (eM m1 (((b.cM.take k).filter (od ps day p)).map λr=>⟨5,p.name,r.name⟩))]) (bN (gh @take_zero.{0} @filter_nil.{0} @map_nil.{0,0} @foldl_nil.{0,0})) zp ?_;intro k hk hall;refine zT b.cM k ?_ ?_;rintro rfl;rotate_left;intro r hx hlt;rotate_left
 rotate_left
 ·obtain⟨M,hM⟩:∃M,M=eM m1 (((b.cM.take k).filter (od ps day p)).map λr=>⟨5,p.name,r.name⟩):=⟨_,rfl⟩;have hnx:=Gh (m:=m1) (q:=od ps day p) (g:=λr=>⟨5,p.name,r.name⟩) hx;rw[<-hM] at hnx ⊢;clear hM;have hre:=gq r;have hh:=xv ps r.cond p.name day hps hpr (hb.AL r (bb hx));rw[cw] at hh;have hadd:=mR M 5 p.name [r.name] (by show 1<=1000000;decide);rw[show eM M ([r.name].map λn=>(⟨5,p.name,n⟩:aB))=cu ⟨5,p.name,r.name⟩ true M from rfl] at hadd
  refine(gO)<|(az (gh hlt (aQ (e:=8) (enc:=cF) qQ hx) hre @bn))<|zA ((11,.ptr 2 0)::(54,an 8 b.cM cF)::(55,ab b.cM.length)::(56,ab k)::rF c dmg b l ps day p) [.cells [.map 1],bD cX ak M,.cells [ah r.name,ah r.kind,ab r.cond.op,ah r.cond.name,ah r.cond.value,ab r.cond.n,ab r.cond.extra,.sl r.cond.kids.length 6 (r.cond.kids.flatMap aX)]] (bN @bn) ?_
  cases g1:decide (r.kind=p.kind)
  ·rw[ut (by unfold od;rw[g1];simp)] at hnx
   refine(az (bz g1 @ae.eq_1))<|(zN)<|(az (zi hlt hlc)) ?_;refine zX hlt (bN hnx) trivial
  refine(fC (cL g1 @ae.eq_1 @aN.eq_1))<|(zK hh) ?_
  cases g3:decide (kO ps r.cond p.name day=0);rotate_left
  ·rw[ut (by unfold od;rw[g3];simp)] at hnx
   refine(cH g3)<|(zN)<|(az (zi hlt hlc)) ?_;refine zX hlt (bN hnx) trivial
  rw[un (by unfold od;rw[g1,g3];rfl)] at hnx
  refine(cH g3)<|(zY)<|(fC (bz @ae.eq_1 @bn)) ?_;refine oZ ((80,an 1 [r.name] (aD ah))::(77,ah p.name)::(75,.map 1)::(54,an 8 b.cM cF)::(55,ab b.cM.length)::(56,ab k)::rF c dmg b l ps day p) 3 rfl ⟨.inr (.buf rfl (bm.refl rfl) (ap _)),zj⟩<|oA ((80,an 1 [r.name] (aD ah))::(77,ah p.name)::(75,.map 1)::(54,an 8 b.cM cF)::(55,ab b.cM.length)::(56,ab k)::rF c dmg b l ps day p) [.cells [.map 1],bD cX ak M] (bN @bn) ?_;refine zS [1] (cL @bn @jd @eW) hadd ?_;refine(zR)<|(az (zi hlt hlc)) ?_;refine zX hlt (bN hnx) trivial
 refine(gE) ?_;simp only[e8,df,bW,bI,if_true];rw[ba];generalize eM m1 ((b.cM.filter (od ps day p)).map λr=>⟨5,p.name,r.name⟩)=m2;refine zA (rF c dmg b l ps day p) [.cells [.map 1],bD cX ak m2] zH ?_;have hov:=Kl b.eu c l p.name day hb.Rw (a8 hb.ld gt) hc hl hle;have hovl:(iE b.eu c l p.name day).length<=1000000:=a8 (Hf _ _ _ _ _) (a8 hb.ld gt);have hpm:=yf c b.fw ps p.name day hc hb.ls ii;generalize iE b.eu c l p.name day=ov at hov hovl ⊢;generalize gA c b.fw ps p.name day=pm at hpm ⊢;have hadd:=mR m2 3 p.name ov hovl;generalize eM m2 (ov.map λn=>⟨3,p.name,n⟩)=m3 at hadd ⊢;have hadd2:=mR m3 2 p.name [p.slot] (by show 1<=1000000;decide);rw[show eM m3 ([p.slot].map λn=>(⟨2,p.name,n⟩:aB))=eM m3 [⟨2,p.name,p.slot⟩] from rfl] at hadd2;refine(zs) ?_;refine kZ [0,0,2,0,8,0,32,0,0,256,0,2040,4095] ?_;refine(kRf (bz @ae.eq_1 @aN.eq_1)) ?_;refine rI.kg g9 rfl rfl g9 rfl rfl zc hov (λS=>bm.refl rfl) rfl ?_;refine rI.Re (f':=rF c dmg b l ps day p) (S':=[.cells [.map 1],bD cX ak m3]) zW rfl (λds_ K_ hK_=>?_) ?_
 ·refine zS [1] (cL @bn @jd @eW) hadd ?_;refine oA (rF c dmg b l ps day p) [.cells [.map 1],bD cX ak m3] zH ?_;exact .nil hK_
 refine(kN)<|(fC (bz @ae.eq_1 @aN.eq_1))<|(zK hpm) ?_
 cases pm
 ·refine(zR)<|(zY)<|(fC (bz @ae.eq_1 @bn)) ?_;refine oZ ((111,an 1 [p.slot] (aD ah))::(108,ah p.name)::(106,.map 1)::rF c dmg b l ps day p) 2 rfl ⟨.inr (.buf rfl (bm.refl rfl) (ap _)),zj⟩<|oA ((111,an 1 [p.slot] (aD ah))::(108,ah p.name)::(106,.map 1)::rF c dmg b l ps day p) [.cells [.map 1],bD cX ak m3] (bN @bn) ?_;refine zS [1] (cL @bn @jd @eW) hadd2 ?_;refine(zR) ?_;exact zP []
 ·refine(zR)<|(zN) ?_;exact zP []
def Cv:∀(L:List aB) {m:List (aB×Bool)},(m.map (·.1)).Nodup->((eM m L).map (·.1)).Nodup
 | [],_,h=>h
 | f::L,_,h=>Cv L (uK (k:=f) (v:=true) h)
def Af:∀(L:List aB) (m:List (aB×Bool)),(eM m L).length<=m.length+L.length
 | [],_=>ap _
 | f::L,m=>by
  have h1:=Af L (cu f true m);have h2:=yE (k:=f) (v:=true) (m:=m);rw[i7];show(eM (cu f true m) L).length<=_;omega
def yl(c:List aK)(b:eg)(l:List aV)(ps:List ai)(day:Int)(p:ai):(ou c b l ps day p).length<=b.rules.length+b.cM.length+b.eu.length+1:=by
 unfold ou;rw[li,li,li,aj,aj,aj];have h1:=bd (λr:jE=>decide (r.kind=p.kind)&&(!tY b.oy p.name r.name day&&!(decide (kO ps r.cond p.name day=2)))) b.rules;have h2:=bd (λr:jE=>decide (r.kind=p.kind)&&!(decide (kO ps r.cond p.name day=0))) b.cM;have h3:=Hf b.eu c l p.name day
 have h4:(if gA c b.fw ps p.name day=true then [] else [(⟨2,p.name,p.slot⟩:aB)]).length<=1:=by split<;>simp
 omega
def LB{α:Type}(enc:α->List SV)(z:α)(o:Option α):jn enc z o=.cq [.ag (enc (o.getD z)),ak o.isSome]:=by cases o<;>rfl
def C0{c:List aK}{dmg:bo}{l:List aV}{day:Int}(hl:∀e∈l,lP e):(runN c dmg l day).1.length<=l.length:=by
 have key:∀(l:List aV) (i:Nat) (s:List ai),(∀p∈s,fJ p)->(∀e∈l,lP e)->(lN c dmg i l s).1.length<=s.length+l.length:=by
  intro l
  induction l with
  | nil=>exact λi s _ _=>ap _
  | cons e r ih=>
   intro i s hs he;obtain⟨q1,q2,_,_⟩:=oR (c:=c) (ps:=s) (e:=e) hs (he e bc);rw[lN,i7];split
   ·split
    ·have:=ih (i+1) _ (yI (dmg:=dmg) (e:=e) q1).1 λx hx=>he x (ax _ hx);rw[(yI (dmg:=dmg) (e:=e) q1).2] at this;omega
    ·have:=ih (i+1) _ q1 λx hx=>he x (ax _ hx);omega
   ·exact aS _
 unfold runN;split
 ·have:=key (dY (db (dK day) l)) 0 [] (λp h=>ul h bv) λe he=>hl e (yG he);have:=EC l (dK day);simp only[i5] at *;omega
 ·exact aS _
def JK{c:List aK}{dmg:bo}{l:List aV}{day:Int}(hl:∀e∈l,lP e):∀p∈(runN c dmg l day).1,fJ p:=by
 have key:∀(l:List aV) (i:Nat) (s:List ai),(∀p∈s,fJ p)->(∀e∈l,lP e)->∀p∈(lN c dmg i l s).1,fJ p:=by
  intro l
  induction l with
  | nil=>exact λi s h _=>h
  | cons e r ih=>
   intro i s hs he;obtain⟨q1,q2,_,_⟩:=oR (c:=c) (ps:=s) (e:=e) hs (he e bc);rw[lN];split
   ·split
    ·exact ih _ _ (yI q1).1 λx hx=>he x (ax _ hx)
    ·exact ih _ _ q1 λx hx=>he x (ax _ hx)
   ·exact λp h=>ul h bv
 unfold runN;split
 ·exact key _ _ _ (λp h=>ul h bv) λe he=>hl e (yG he)
 ·exact λp h=>ul h bv
def ML{m:List (aB×Bool)}{g:List Nat->List aB}{l:List (List Nat)}{k:Nat}{n:List Nat}(h:l[k]?=some n):eM m ((l.take (k+1)).flatMap g)=eM (eM m ((l.take k).flatMap g)) (g n):=by
 rw[c8 h,List.flatMap_append,oV,c2,List.flatMap_nil,bw]
def MN{m:List (aB×Bool)}{q:mT->Bool}{g:mT->aB}{l:List mT}{k:Nat}{r:mT}(h:l[k]?=some r):eM m (((l.take (k+1)).filter q).map g)=if q r=true then cu (g r) true (eM m (((l.take k).filter q).map g)) else eM m (((l.take k).filter q).map g):=by
 rw[c8 h,ch,c4,filter_nil];split
 ·rw[bh,bi,map_nil,vZ]
 ·rw[bw]
abbrev SX(c:List aK)(dmg:bo)(b:eg)(l:List aV)(vehicle:List Nat)(day:Int):Fm:=[(3,ah vehicle),(5,.ip (an 3 c aq::aC dmg)),(6,.ip (aN b)),(7,.ip [an 14 l ao]),(9,.ip [ab day])]
abbrev nJ(c:List aK)(dmg:bo)(b:eg)(l:List aV)(ps:List ai)(vehicle:List Nat)(day:Int):Fm:=(11,.ptr 1 0)::(12,.ip [an 14 ps ae])::SX c dmg b l vehicle day
def tz(c:List aK)(dmg:bo)(b:eg)(l:List aV)(vehicle:List Nat)(day:Int)(hb:sQ b)(hc:mS c)(hf:gZ dmg)(hl:l.length<20)(hle:∀e∈l,lP e):
 PC prog 12 [.ag (an 3 c aq::aC dmg),.ag (aN b),an 14 l ao,ah vehicle,ab day] (·=an 3 (fE c dmg b l vehicle day) aL):=by
 have hfl:(aC dmg).length=3:=fa dmg;have hft:(aC dmg).take 3=aC dmg:=b8 (by rw[hfl];exact ap _);have hfk:=λo:Nat=>bV (o:=o) (aW dmg);have hfn:=λo:Nat=>bX (o:=o) (aW dmg);have hru:=Ks c dmg l day hc hf hl hle;have hpl:(runN c dmg l day).1.length<=20:=a8 (C0 hle) ii;have hpo:=JK (c:=c) (dmg:=dmg) (day:=day) hle;unfold U9 at hru;obtain⟨R,hR⟩:∃R,R=fE c dmg b l vehicle day:=⟨_,rfl⟩;rw[<-hR];unfold fE at hR;generalize runN c dmg l day=rr at hru hpl hpo hR;have hfi:=λn=>iZ rr.1 n ii;simp only[LB] at hfi;have hki:=λn=>lf c n hc.len;simp only[LB] at hki
 refine pB 116 Tryz.func12 ?_;refine(az (cL hfk hfn @aN.eq_1)) ?_;refine zZ [(3,ah vehicle),(5,.ip (an 3 c aq::aC dmg)),(6,.ptr 1 0),(7,.ptr 2 0),(9,.ptr 3 0)] 0 rfl ⟨.inl rfl,.inr (.ptr rfl (bm.refl (aW dmg)) (aS _)),zj⟩<|zZ [(3,ah vehicle),(5,.ip (an 3 c aq::aC dmg)),(6,.ip (aN b)),(7,.ptr 2 0),(9,.ptr 3 0)] 1 rfl (gV (bz @an.eq_1 @aN.eq_1))<|zZ [(3,ah vehicle),(5,.ip (an 3 c aq::aC dmg)),(6,.ip (aN b)),(7,.ip [an 14 l ao]),(9,.ptr 3 0)] 2 rfl (gV @an.eq_1)<|zZ (SX c dmg b l vehicle day) 3 rfl (gV @an.eq_1)<|zA (SX c dmg b l vehicle day) [] zH<|(zV)<|zA ((11,.ptr 1 0)::SX c dmg b l vehicle day) [bD cX ak [],.cells [.map 0]] (bN (show SO.map [] [] none=bD cX ak [] from rfl))<|(fC (bz hfl hft))<|(zK hru (hwk:=(.cons (.ag (bm.refl (aW dmg))) (bm.refl rfl))) (hfl:=.inr (.cons (.ag (bm.refl (aW dmg))) (bm.refl rfl))))<|(cH @bn) ?_
 generalize rr.1=ps at *
 refine zZ ((14,ab rr.2.2)::nJ c dmg b l ps vehicle day) 2 rfl (gV @an.eq_1)<|zA ((14,ab rr.2.2)::nJ c dmg b l ps vehicle day) [bD cX ak [],.cells [.map 0]] (bN @bn)<|(zC)<|(zK (hfi vehicle) (hfl:=.inr (bm.refl rfl))) ?_
 obtain⟨v,hv⟩:∃v,v=(bu ps vehicle).getD ai.zero:=⟨_,rfl⟩;obtain⟨is,his⟩:∃is,is=(bu ps vehicle).isSome:=⟨_,rfl⟩;rw[<-hv,<-his];have hek:ae v=[ah v.name,ah v.kind,ah v.aJ,ah v.slot,ab v.made,ab v.since,ak v.aY,an 2 v.props aG,ab v.l1,ab v.l2,ab v.l3,ab v.l4,ab v.l5,ab v.l6]:=rfl
 refine(cH (bz @bn hek)) ?_;refine zZ ((16,ak is)::(15,.ip (ae v))::(14,ab rr.2.2)::nJ c dmg b l ps vehicle day) 2 rfl (gV (bz @an.eq_1 @ae.eq_1))<|zA ((16,ak is)::(15,.ip (ae v))::(14,ab rr.2.2)::nJ c dmg b l ps vehicle day) [bD cX ak [],.cells [.map 0]] (bN @bn)<|(fC @ae.eq_1)<|(zK (hki v.kind) (hfl:=.inr (bm.refl rfl))) ?_
 obtain⟨kd,hkd⟩:∃kd,kd=(dH c v.kind).getD aK.zero:=⟨_,rfl⟩;rw[<-hkd];generalize (dH c v.kind).isSome=kis
 refine(cH (bz @bn @aq.eq_1)) ?_;refine zZ ((17,.ip (aq kd))::(16,ak is)::(15,.ip (ae v))::(14,ab rr.2.2)::nJ c dmg b l ps vehicle day) 2 rfl (gV (cL @an.eq_1 @ae.eq_1 @aq.eq_1))<|zA ((17,.ip (aq kd))::(16,ak is)::(15,.ip (ae v))::(14,ab rr.2.2)::nJ c dmg b l ps vehicle day) [bD cX ak [],.cells [.map 0]] (bN @bn) ?_
 obtain⟨bad,hbad⟩:∃bad:Bool,bad=(!(decide (rr.2.2=0))||(!is||(v.aY||!kd.vehicle))):=⟨_,rfl⟩
 (repeat refine aE.seq ?_)
 refine aE.mono (Q:=λex st=>ex=.normal/\Fg st ⟨(63,ak bad)::(15,.ip (ae v))::nJ c dmg b l ps vehicle day,116,[bD cX ak [],.cells [.map 0]],[]⟩) ?_ ?_
 ·cases g0:decide (rr.2.2=0)
  ·rw[g0] at hbad;subst hbad;refine(az g0) ?_;exact⟨rfl,(bN @bn)⟩
  cases g1:is
  ·rw[g0,g1] at hbad;subst hbad;refine(az g0) ?_;exact⟨rfl,(bN @bn)⟩
  cases g2:v.aY;rotate_left
  ·rw[g0,g1,g2] at hbad;subst hbad;refine(az (cL g0 @ae.eq_1 g2)) ?_;exact⟨rfl,(bN (cL @bn @ae.eq_1 g2))⟩
  cases g3:kd.vehicle
  ·rw[g0,g1,g2,g3] at hbad;subst hbad;refine(az (lB g0 @ae.eq_1 g2 @aq.eq_1 g3)) ?_;exact⟨rfl,(bN (cL @bn @ae.eq_1 g2))⟩
  ·rw[g0,g1,g2,g3] at hbad;subst hbad;refine(az (lB g0 @ae.eq_1 g2 @aq.eq_1 g3)) ?_;exact⟨rfl,(bN (cL @bn @ae.eq_1 g2))⟩
 rintro _ _ ⟨rfl,hfg⟩;simp only[df];refine aE.fg hfg ?_;clear hfg
 have hRb:R=if bad=true then [⟨4,vehicle,[]⟩] else iG (uF (z6 c b l ps vehicle day v)):=by
  rw[hR,hbad]
  cases hm:bu ps vehicle with
  | none=>rw[his,hm];simp
  | some w=>
   rw[hm] at hv his;have hv:v=w:=hv;subst hv;simp only[his,Option.isSome_some,c1,el,<-hkd];by_cases k0:rr.2.2=0
   ·cases v.aY<;>cases kd.vehicle<;>simp[k0]
   ·simp[k0]
 cases bad;rotate_left
 ·rw[un rfl] at hRb;have hadd:=mR [] 4 vehicle [[]] (by show 1<=1000000;decide);rw[show eM [] ([[]].map λn=>(⟨4,vehicle,n⟩:aB))=[(⟨4,vehicle,[]⟩,true)] from rfl] at hadd;have hord:=sO [(⟨4,vehicle,[]⟩,true)] (by show 1<=100000;decide) gc;rw[show iG ([((⟨4,vehicle,[]⟩:aB),true)].map (·.1))=R from hRb.symm] at hord
  refine(zY)<|(fC @bn) ?_;refine oZ ((66,an 1 [([]:List Nat)] (aD ah))::(65,ah vehicle)::(64,.map 0)::nJ c dmg b l ps vehicle day) 2 rfl ⟨.inr (.buf rfl (bm.refl rfl) (ap _)),zj⟩<|oA ((66,an 1 [([]:List Nat)] (aD ah))::(65,ah vehicle)::(64,.map 0)::nJ c dmg b l ps vehicle day) [bD cX ak [],.cells [.map 0]] (bN @bn) ?_;refine zS [0] (cL @bn @jd @eW) hadd ?_;refine(zR) ?_;refine aE.fg (Fg.mr (f':=[(11,.ptr 1 0)]) (S':=[.gone,.cells [mw cX ak [(⟨4,vehicle,[]⟩,true)]]]) 0 rfl ge zj ⟨.inl rfl,.inr ⟨by decide,.inr ⟨_,_,rfl,rfl,.cons (mF (λ_=>rfl) rfl) .nil⟩⟩,trivial⟩) ?_;exact zZ [(11,.ip [mw cX ak [((⟨4,vehicle,[]⟩:aB),true)]])] 1 rfl ⟨.inr (.ptr rfl (bm.refl rfl) (aS _)),trivial⟩<|zA [(11,.ip [mw cX ak [((⟨4,vehicle,[]⟩:aB),true)]])] [] zH<|(zC)<|(zK hord (hfl:=.inr (bm.refl rfl)))<|(zR)<|zo [.tmp 10] (r:=an 3 R aL) (hw:=Wk.refl rfl)
 rw[ut Bool.false_ne_true] at hRb;have hpr:∀p∈ps,p.props.length<=1000000:=λp hp=>(hpo p hp).len;have hask:=λp m=>HE c dmg b l ps day p m hb hc hl hle ii hpr;have hin:=ry ps vehicle ii;have hil:=nk ps vehicle;unfold z6 at hRb;generalize ec ps vehicle=I at hin hil hRb;have hrc:∀(r:Nat->Nat) (l:List (List Nat)),nr r (l.flatMap (aD ah))=l.flatMap (aD ah):=λr l=>br (aA (λ_=>rfl) l);have hbc:∀(B:Nat) (l:List (List Nat)),je B (l.flatMap (aD ah))=true:=λB l=>bK (aA (λ_=>rfl) l);have hkc:∀(o:Nat) (l:List (List Nat)),(l.flatMap (aD ah)).map (bf o)=l.flatMap (aD ah):=λo l=>bC (enc:=aD ah) (λ_=>rfl) o l
 have hlI:I.length<=1000000:=by omega
 have hlh:b.holds.length<=1000000:=a8 hb.lh gt
 refine(ly)<|zA ((19,.fn 31 [] [.ip (aN b),.ip [ab day],.ip [an 14 ps ae],.ptr 1 0,.ip (an 3 c aq::aC dmg),.ip [an 14 l ao]])::(15,.ip (ae v))::nJ c dmg b l ps vehicle day) [bD cX ak [],.cells [.map 0]] (bN @bn)<|(fC @ae.eq_1) ?_;refine zS [1,0] (cL @bn @jd @eW) (hask v []) ?_ (hc:=IH (bz @cons_append.{0} @nil_append.{0}));refine(zR) ?_
 obtain⟨m1,hm1⟩:∃m1,m1=eM [] (ou c b l ps day v):=⟨_,rfl⟩;rw[<-hm1];refine zA ((19,.fn 31 [] [.ip (aN b),.ip [ab day],.ip [an 14 ps ae],.ptr 1 0,.ip (an 3 c aq::aC dmg),.ip [an 14 l ao]])::nJ c dmg b l ps vehicle day) [bD cX ak m1,.cells [.map 0]] (bN @bn) ?_
 (repeat refine aE.seq ?_)
 refine aE.mono (Q:=λex st=>ex=.normal/\Fg st ⟨(76,an 1 I (aD ah))::(77,ab I.length)::(78,ab 0)::(19,.fn 31 [] [.ip (aN b),.ip [ab day],.ip [an 14 ps ae],.ptr 1 0,.ip (an 3 c aq::aC dmg),.ip [an 14 l ao]])::nJ c dmg b l ps vehicle day,116,[bD cX ak m1,.cells [.map 0]],[]⟩) ?_ ?_
 ·by_cases hL:I=[]
  ·subst hL;rw[show cj 0 1 ([]:List (List Nat)).length=bF from rfl,iD] at hin;refine(zC) ?_;refine aR.sk [] g9 rfl rfl g9 rfl zc (hin) (by simp only[gJ,bY,an,↓reduceIte,ad,af,ay,am,ac,al,↓bn,jd,eW];first | done | rfl) rfl gt (by simp only[DY,gJ,bY,an,↓bn,jd,eW]<;>(repeat' apply be)<;>first | trivial | rfl | (intro hh;cases hh)) (by simp only[C5,gJ,bY,an,af,al,decide_true,↓bn,jd,eW];first | done | rfl) (by simp only[C5,gJ,bY,an,af,al,decide_true,↓bn,jd,eW];first | done | rfl) (by simp only[gJ,bY,an,↓reduceIte,ad,af,ay,am,ac,al,↓bn,jd,eW];first | done | rfl) (by simp only[gJ,bY,an,↓reduceIte,ad,af,ay,am,ac,al,↓bn,jd,eW,eU,eC,cI,bf,dD];first | done | rfl) (by simp only[gJ,bY,an,↓reduceIte,ad,af,ay,am,ac,al,↓bn,jd,eW,eU,eC,cI,bf,dD];first | done | rfl) ?_;refine(zR) ?_;exact⟨rfl,Fg.trans (Fg.wk (f':=(76,an 1 ([]:List (List Nat)) (aD ah))::(77,ab (([]:List (List Nat)).length))::(78,ab 0)::(19,.fn 31 [] [.ip (aN b),.ip [ab day],.ip [an 14 ps ae],.ptr 1 0,.ip (an 3 c aq::aC dmg),.ip [an 14 l ao]])::nJ c dmg b l ps vehicle day) ⟨.inr (Wk.nil 1),zj⟩) (bN @bn)⟩
  ·have hL0:¬I.length=0:=λh=>hL (t7 h);rw[eF (o:=0) (e:=1) hL0,gz hL] at hin;refine(zC) ?_;refine aR.sk [] g9 rfl rfl g9 rfl zc (hin) (by simp only[gJ,bY,an,↓reduceIte,ad,af,ay,am,ac,al,↓bn,jd,eW,hrc,hbc,hkc];first | done | rfl) rfl gt (by simp only[DY,gJ,bY,an,↓bn,jd,eW,hrc,hbc,hkc]<;>(repeat' apply be)<;>first | trivial | rfl | (intro hh;cases hh)) (by simp only[C5,gJ,bY,an,af,al,decide_true,↓bn,jd,eW,hrc,hbc,hkc];first | done | rfl) (by simp only[C5,gJ,bY,an,af,al,decide_true,↓bn,jd,eW,hrc,hbc,hkc];first | done | rfl) (by simp only[gJ,bY,an,↓reduceIte,ad,af,ay,am,ac,al,↓bn,jd,eW,hrc,hbc,hkc];first | done | rfl) (by simp only[gJ,bY,an,↓reduceIte,ad,af,ay,am,ac,al,↓bn,jd,eW,hrc,hbc,hkc,eU,eC,cI,bf,dD];first | done | rfl) (by simp only[gJ,bY,an,↓reduceIte,ad,af,ay,am,ac,al,↓bn,jd,eW,hrc,hbc,hkc,eU,eC,cI,bf,dD];first | done | rfl) ?_;refine(zR) ?_;exact⟨rfl,Fg.trans (Fg.freeze (f':=(76,an 1 I (aD ah))::(77,ab I.length)::(78,ab 0)::(19,.fn 31 [] [.ip (aN b),.ip [ab day],.ip [an 14 ps ae],.ptr 1 0,.ip (an 3 c aq::aC dmg),.ip [an 14 l ao]])::nJ c dmg b l ps vehicle day) 2 rfl ge ⟨.inr (.buf rfl (by rw[eL (enc:=aD ah) (e:=1) (λ_=>rfl)];exact bm.refl (aA (λ_=>rfl) _)) (by rw[bg (enc:=aD ah) (e:=1) (λ_=>rfl)];exact ap _)),zj⟩) (bN @bn)⟩
 rintro _ _ ⟨rfl,hfg⟩;simp only[df];refine aE.fg hfg ?_;clear hfg hin;refine(zs) ?_;refine zL I (λk=>True) (λk=>(76,an 1 I (aD ah))::(77,ab I.length)::(78,ab k)::(19,.fn 31 [] [.ip (aN b),.ip [ab day],.ip [an 14 ps ae],.ptr 1 0,.ip (an 3 c aq::aC dmg),.ip [an 14 l ao]])::nJ c dmg b l ps vehicle day) (λk=>[bD cX ak (eM m1 ((I.take k).flatMap λn=>ou c b l ps day (cP ps n))),.cells [.map 0]]) (bN (cL @take_zero.{0} @List.flatMap_nil.{0,0} @foldl_nil.{0,0})) zp ?_;intro k hk hall;refine zT I k ?_ ?_;rintro rfl;rotate_left;intro n hx hlt;rotate_left;rotate_left
 ·have hnx:=ML (m:=m1) (g:=λn=>ou c b l ps day (cP ps n)) hx;generalize eM m1 ((I.take k).flatMap λn=>ou c b l ps day (cP ps n))=M at hnx ⊢
  refine(gO)<|(az (gh hlt (aQ (e:=1) (enc:=aD ah) (λ_=>rfl) hx) @aD.eq_1 @bn))<|(zC)<|(zK (hfi n) (hfl:=.inr (bm.refl rfl))) ?_
  rw[show(bu ps n).getD ai.zero=cP ps n from rfl];generalize (bu ps n).isSome=nis;have hnx:eM m1 ((I.take (k+1)).flatMap λn=>ou c b l ps day (cP ps n))=eM M (ou c b l ps day (cP ps n)):=hnx;generalize cP ps n=v at hnx ⊢;have hek:ae v=[ah v.name,ah v.kind,ah v.aJ,ah v.slot,ab v.made,ab v.since,ak v.aY,an 2 v.props aG,ab v.l1,ab v.l2,ab v.l3,ab v.l4,ab v.l5,ab v.l6]:=rfl
  refine(cH (bz @bn hek)) ?_;refine zZ ((22,.ip (ae v))::(76,an 1 I (aD ah))::(77,ab I.length)::(78,ab k)::(19,.fn 31 [] [.ip (aN b),.ip [ab day],.ip [an 14 ps ae],.ptr 1 0,.ip (an 3 c aq::aC dmg),.ip [an 14 l ao]])::nJ c dmg b l ps vehicle day) 2 rfl (gV (bz @an.eq_1 @ae.eq_1))<|zA ((22,.ip (ae v))::(76,an 1 I (aD ah))::(77,ab I.length)::(78,ab k)::(19,.fn 31 [] [.ip (aN b),.ip [ab day],.ip [an 14 ps ae],.ptr 1 0,.ip (an 3 c aq::aC dmg),.ip [an 14 l ao]])::nJ c dmg b l ps vehicle day) [bD cX ak M,.cells [.map 0]] (bN @bn)<|(fC @ae.eq_1) ?_;refine zS [1,0] (cL @bn @jd @eW) (hask v M) ?_ (hc:=IH (bz @cons_append.{0} @nil_append.{0}));refine(zR)<|(az (zi hlt hlI)) ?_;refine zX hlt (bN hnx) trivial
 refine(gE) ?_;simp only[e8,df,bW,bI,if_true];rw[ba];obtain⟨m2,hm2⟩:∃m2,m2=eM m1 (I.flatMap λn=>ou c b l ps day (cP ps n)):=⟨_,rfl⟩;rw[<-hm2]
 refine(az @aN.eq_1)<|zA ((93,an 4 b.holds cE)::(94,ab b.holds.length)::(95,ab 0)::nJ c dmg b l ps vehicle day) [bD cX ak m2,.cells [.map 0]] (bN @bn)<|(zs) ?_;refine zL b.holds (λk=>True) (λk=>(93,an 4 b.holds cE)::(94,ab b.holds.length)::(95,ab k)::nJ c dmg b l ps vehicle day) (λk=>[bD cX ak (eM m2 (((b.holds.take k).filter λh=>decide (h.vehicle=vehicle)&&BL h).map λh=>⟨6,vehicle,h.id⟩)),.cells [.map 0]]) (bN (gh @take_zero.{0} @filter_nil.{0} @map_nil.{0,0} @foldl_nil.{0,0})) zp ?_;intro k hk hall;refine zT b.holds k ?_ ?_;rintro rfl;rotate_left;intro h hx hlt;rotate_left
 rotate_left
 ·have hnx:=MN (m:=m2) (q:=λh=>decide (h.vehicle=vehicle)&&BL h) (g:=λh=>⟨6,vehicle,h.id⟩) hx;generalize eM m2 (((b.holds.take k).filter λh=>decide (h.vehicle=vehicle)&&BL h).map λh=>⟨6,vehicle,h.id⟩)=M at hnx ⊢;have hadd:=mR M 6 vehicle [h.id] (by show 1<=1000000;decide);rw[show eM M ([h.id].map λn=>(⟨6,vehicle,n⟩:aB))=cu ⟨6,vehicle,h.id⟩ true M from rfl] at hadd;have hho:=hb.hold h (bb hx);have hout:=NG h hho.1 hho.2
  refine(gO)<|(az (gh hlt (aQ (e:=4) (enc:=cE) (λ_=>rfl) hx) @cE.eq_1 @bn))<|zA ((25,.ptr 2 0)::(93,an 4 b.holds cE)::(94,ab b.holds.length)::(95,ab k)::nJ c dmg b l ps vehicle day) [bD cX ak M,.cells [.map 0],.cells [ah h.id,ah h.vehicle,an 1 h.members (aD ab),an 1 h.back (aD ab)]] (bN @bn) ?_
  cases g1:decide (h.vehicle=vehicle)
  ·rw[ut (by rw[g1];simp)] at hnx
   refine(az g1)<|(zN)<|(az (zi hlt hlh)) ?_;refine zX hlt (bN hnx) trivial
  refine(fC g1)<|(zK hout) ?_
  cases g2:BL h
  ·rw[ut (by rw[g2];simp)] at hnx
   refine(zR)<|(zN)<|(az (zi hlt hlh)) ?_;refine zX hlt (bN hnx) trivial
  rw[un (by rw[g1,g2];rfl)] at hnx
  refine(zR)<|(zY)<|(fC @bn) ?_;refine oZ ((111,an 1 [h.id] (aD ah))::(108,ah vehicle)::(107,.map 0)::(93,an 4 b.holds cE)::(94,ab b.holds.length)::(95,ab k)::nJ c dmg b l ps vehicle day) 3 rfl ⟨.inr (.buf rfl (bm.refl rfl) (ap _)),zj⟩<|oA ((111,an 1 [h.id] (aD ah))::(108,ah vehicle)::(107,.map 0)::(93,an 4 b.holds cE)::(94,ab b.holds.length)::(95,ab k)::nJ c dmg b l ps vehicle day) [bD cX ak M,.cells [.map 0]] (bN @bn) ?_;refine zS [0] (cL @bn @jd @eW) hadd ?_;refine(zR)<|(az (zi hlt hlh)) ?_;refine zX hlt (bN hnx) trivial
 refine(gE) ?_;simp only[e8,df,bW,bI,if_true];rw[ba];obtain⟨m3,hm3⟩:∃m3,m3=eM m2 ((b.holds.filter λh=>decide (h.vehicle=vehicle)&&BL h).map λh=>⟨6,vehicle,h.id⟩):=⟨_,rfl⟩;rw[<-hm3]
 have hm:m3=eM [] (ou c b l ps day v++((I.flatMap λn=>ou c b l ps day (cP ps n))++(b.holds.filter λh=>decide (h.vehicle=vehicle)&&BL h).map λh=>⟨6,vehicle,h.id⟩)):=by rw[oV,oV,<-hm1,<-hm2,<-hm3]
 have hk3:(m3.map (·.1)).Nodup:=by rw[hm];exact Cv _ a7
 have hl3:m3.length<=100000:=by
  rw[hm];refine a8 (Af _ _) ?_;rw[i5,li,li,aj,List.length_flatMap];have q1:=yl c b l ps day v;have q2:=bd (λh:mT=>decide (h.vehicle=vehicle)&&BL h) b.holds
  have q3:(I.map λn=>(ou c b l ps day (cP ps n)).length).sum<=I.length*301:=by
   have:∀J:List (List Nat),(J.map λn=>(ou c b l ps day (cP ps n)).length).sum<=J.length*301:=by
    intro J
    induction J with
    | nil=>exact ap _
    | cons n J ih=>
     have q:=yl c b l ps day (cP ps n);have:=hb.lr;have:=hb.lc;have:=hb.ld;rw[bi,List.sum_cons,i7];omega
   exact this I
  have:=hb.lr;have:=hb.lc;have:=hb.ld;have:=hb.lh;omega
 have hord:=sO m3 hl3 hk3;rw[show iG (m3.map (·.1))=R by rw[hRb,hm];rfl] at hord;clear hm hm3 hRb
 refine zA [(11,.ptr 1 0)] [bD cX ak m3,.cells [.map 0]] zH ?_;refine aE.fg (Fg.mr (f':=[(11,.ptr 1 0)]) (S':=[.gone,.cells [mw cX ak m3]]) 0 rfl ge zj ⟨.inl rfl,.inr ⟨by decide,.inr ⟨_,_,rfl,rfl,.cons (mF (λ_=>rfl) rfl) .nil⟩⟩,trivial⟩) ?_;exact zZ [(11,.ip [mw cX ak m3])] 1 rfl ⟨.inr (.ptr rfl (bm.refl rfl) (aS _)),trivial⟩<|zA [(11,.ip [mw cX ak m3])] [] zH<|(zC)<|(zK hord (hfl:=.inr (bm.refl rfl)))<|(zR)<|zo [.tmp 10] (r:=an 3 R aL) (hw:=Wk.refl rfl)
end Go.Proofs
namespace Go.Ev
def KS{P:Program}{t:TypeId}{xs ys:List AV}{b:Bool}(h:dj P .eql t (.agg xs) (.agg ys)=some (.bool b)):dj P .neq t (.agg xs) (.agg ys)=some (.bool (!b)):=by
 change cond (P.eqGuardType P.depth t) none ((lT P 8 t (.agg xs) (.agg ys)).map AV.bool)=_ at h;show cond (P.eqGuardType P.depth t) none ((lT P 8 t (.agg xs) (.agg ys)).map λb=>AV.bool (!b))=_
 revert h
 cases P.eqGuardType P.depth t
 ·cases lT P 8 t (.agg xs) (.agg ys)
  ·intro h;cases h
  ·intro h;injection h with h;injection h with h;subst h;rfl
 ·intro h;cases h
end Go.Ev
namespace Go.Proofs
open Go.Ev
set_option maxRecDepth 100000
def HO(a b:aB):dj prog .eql 65 (.agg [.int .i64 a.kind,.str a.part,.str a.name]) (.agg [.int .i64 b.kind,.str b.part,.str b.name])=some (.bool (decide (a=b))):=
 tN (ks:=[.i .i64,.s,.s]) zW zW (by simp only[aH,m6]) rfl rfl (aB.eq a b)
def Kt(a b:List aB)(ha:a.length<=1000000):PC prog 11 [an 3 a aL,an 3 b aL] (·=ak (decide (a=b))):=by
 refine pB 26 Tryz.func11 ?_;refine(zV) ?_;cases g:decide ((a.length:Int)=b.length)
 ·exact(az g)<|(cB)<|zo [.tmp 4] (hq:=by rw[wd (λh=>wt g (by rw[h]))])
 refine(az g)<|(ly) ?_
 have hl:a.length=b.length:=Int.ofNat.inj (ww g);refine(zs) ?_;refine zL a (λk=>a.take k=b.take k) (λk=>[(0,an 3 a aL),(1,an 3 b aL),(5,ab k)]) (λk=>[]) zH zp ?_;intro k hk hall;by_cases hlt:k<a.length;rotate_left
 ·obtain rfl:k=a.length:=by omega
  rw[ba,hl,ba] at hall
  exact(az (show decide ((a.length:Int)<(a.length:Int))=false by simp))<|(gE)<|(zV)<|zo [.tmp 4] (hq:=by rw[wl hall])
 have hd:=show decide ((k:Int)<(a.length:Int))=true by simp only[wp];omega
 obtain⟨x,hx⟩:∃x,a[k]?=some x:=⟨a[k],jp hlt⟩
 have hlt2:k<b.length:=by omega
 obtain⟨y,hy⟩:∃y,b[k]?=some y:=⟨b[k],jp hlt2⟩
 refine(az hd)<|(gO) ?_
 have hn:=KS (HO x y);refine(zs) ?_;refine oK [0,0,3,7,0,0,48,112,255] ?_;cases he:decide (x=y)
 ·rw[he] at hn
  exact(vD (wS hlt hlt2 (aQ (e:=3) (enc:=aL) (λ_=>rfl) hx) (aQ (e:=3) (enc:=aL) (λ_=>rfl) hy) @aL.eq_1 hn))<|(zM)<|(cB)<|zo [.tmp 4] (hq:=by rw[wd (λh=>by subst h;rw[hx] at hy;exact wt he (Option.some.inj hy))])
 ·rw[he] at hn
  refine(vD (wS hlt hlt2 (aQ (e:=3) (enc:=aL) (λ_=>rfl) hx) (aQ (e:=3) (enc:=aL) (λ_=>rfl) hy) @aL.eq_1 hn))<|(zM)<|(zN)<|(az (zi hlt ha)) ?_;refine zX hlt zH (by rw[c8 hx,c8 hy,hall,ww he])
def MM(l:List aB)(x:aB):Bool:=l.any λy=>decide (y=x)
def Gx{l:List aB}{x:aB}:MM l x=true↔x∈l:=by
 unfold MM;rw[List.any_eq_true];exact⟨λ⟨y,h,e⟩=>ww e▸h,λh=>⟨x,h,wl rfl⟩⟩
def HV(l:List aB)(x:aB)(hlen:l.length<=1000000):PC prog 18 [an 3 l aL,.ag (aL x)] (·=ak (MM l x)):=by
 refine pB 18 Tryz.func18 ?_;refine(az @aL.eq_1) ?_;refine zZ [(0,an 3 l aL),(3,.ip (aL x))] 0 rfl (gV (bz @an.eq_1 @aL.eq_1))<|zA [(0,an 3 l aL),(3,.ip (aL x))] [] zH<|(zV)<|(zs) ?_;refine zL l (λk=>∀(i:Nat) y,i<k->l[i]?=some y->decide (y=x)=false) (λk=>[(0,an 3 l aL),(3,.ip (aL x)),(5,ab k)]) (λk=>[]) zH zp ?_;intro k hk hall
 by_cases hlt:k<l.length;rotate_left
 ·exact(az (show decide ((k:Int)<(l.length:Int))=false by simp only[wn];omega))<|(gE)<|(zV)<|zo [.tmp 4] (hq:=by rw[MM,Dv λi y hi hy=>hall i y ii hy])
 obtain⟨y,hx⟩:∃y,l[k]?=some y:=⟨l[k],jp hlt⟩
 refine(az (show decide ((k:Int)<(l.length:Int))=true by simp only[wp];omega))<|(gO) ?_
 have hn:=HO y x;refine(zs) ?_;refine oK [0,0,3,7,0,31] ?_;cases he:decide (y=x)
 ·rw[he] at hn
  refine(NO (gh hlt (aQ (e:=3) (enc:=aL) (λ_=>rfl) hx) @aL.eq_1 hn))<|(zM)<|(zN)<|(az (zi hlt hlen)) ?_;refine zX hlt (bN @aL.eq_1) ?_
  intro i z hi hz;by_cases hik:i=k
  ·subst hik;rw[hx] at hz;cases hz;exact he
  ·exact hall i z ii hz
 ·rw[he] at hn
  exact(NO (gh hlt (aQ (e:=3) (enc:=aL) (λ_=>rfl) hx) @aL.eq_1 hn))<|(zM)<|(cB)<|zo [.tmp 4] (hq:=by rw[MM,Du hx he])
end Go.Proofs
