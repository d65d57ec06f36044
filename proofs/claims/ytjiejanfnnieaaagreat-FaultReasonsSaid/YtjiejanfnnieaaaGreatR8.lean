/- Lemmas of this claim, each with its conditions. -/
import Derived.Test.YtjiejanfnnieaaaGreatR7
import Derived.Test.YtjiejanfnnieaaaGreatR6
import Derived.Test.YtjiejanfnnieaaaGreatR5
import Derived.Test.YtjiejanfnnieaaaGreatR4
import Derived.Test.YtjiejanfnnieaaaGreatR2
import Derived.WalkKit
import Derived.WalkSpells
import Derived.WalkLawsBesides
import Derived.Deep.QuietTactic
import Derived.BigQuiet
import Derived.StillTailTactics
import Derived.Sort.Grow
import Derived.Shelf.SlGeneric
import Derived.Shelf.SlLaysF0
import Derived.Shelf.Small.Strs
import Derived.Shelf.Small.Bits
import Derived.Ground.SlsfProg
import Derived.Ground.NamesProg
import Derived.Test.YtjiejanfnnieaaaGreatProg
import Derived.Shelf.SlSortCmp.Xorshift
import Derived.Shelf.SlSortCmp.InsertionK
import Derived.Shelf.SlSortCmp.WholeK
set_option linter.all false
set_option maxHeartbeats 8000000
open Go.Proofs.Tryz (prog func156 func149 func157 func238 func287 func312 func64 func74 func76)
open List (mem_map mem_append nil_append mem_filter cons_append map_nil take_zero mem_iff_getElem? Perm filter_nil foldl_nil)
open List renaming length_map -> ac, mem_cons_of_mem -> am, getElem?_map -> ax, nodup_nil -> aS, mem_of_getElem? -> a6, mem_map_of_mem -> a8, mem_cons_self -> ba, mem_cons -> bb, map_append -> bh, nodup_cons -> bi, take_length -> bk, length_filter_le -> bt, map_cons -> bv, foldl_append -> bw, foldl_cons -> b4, length_filterMap_le -> b6, filter_cons -> b7, append_nil -> b8, perm_ext_iff_of_nodup -> ca, mem_of_find?_eq_some -> cd, pairwise_cons -> ch, pairwise_singleton -> ci, take_of_length_le -> ck, getElem?_eq_none -> cl, filterMap_cons -> ct, drop_zero -> c0, filter_append -> c5, mem_singleton -> c6, filter_congr -> dd, not_mem_nil -> dt, append -> ey, any_cons -> e6
open Nat renaming reduceLeDiff -> ad, reduceEqDiff -> af, reduceAdd -> aj, le_refl -> al, reduceLT -> ap, reduceMul -> ay, zero_le -> a7, le_trans -> bc, reduceSub -> bd, not_lt_zero -> dv, mul_one -> d6, add_zero -> fl
open Bool renaming and_eq_true -> be, or_eq_true -> cb, true_and -> cc, false_eq_true -> c2, false_ne_true -> c3, and_true -> dc, or_self -> dC, decide_and -> em, not_false -> ex, false_or -> e4, not_true -> e5
open Array renaming getElem?_eq_getElem -> b5, eq_empty_of_size_eq_zero -> b9, getElem?_push -> ce, getElem?_modify -> co, getElem?_toList -> cp, length_toList -> c1, size_push -> es
open And renaming intro -> cn
open Go.Proofs.Tryz renaming ntmps77 -> cv, func77 -> dl, func226 -> d7, func233 -> d8, func237 -> d9, ntmps79 -> el, func79 -> e3
open Int renaming lt_trichotomy -> c4
namespace Go.Proofs
open Go.Ev
set_option maxRecDepth 100000
def F0(ps:List ak)(part:List Nat):iU:=(ps.filter λp=>!(decide (p.aT=[]))&&!(decide (p.name=part))).map λp=>(p.name,p.aT)
def UJ:Nat->List ak->List (List Nat×Int)
 | _,[]=>[]
 | i,p::ps=>(p.name,(i:Int))::UJ (i+1) ps
def J0:∀{ps:List ak} {i:Nat} {m:List (List Nat×Int)},eu (ps.map ak.name)=true->(∀p∈ps,dA p.name m=false)->nv i m ps=m++UJ i ps
 | [],_,m,_,_=>(b8 m).symm
 | p::ps,i,m,ho,hm=>by
  have hp:=hm p ba;have hlt:=nR (a:=p.name) (l:=ps.map ak.name) ho;rw[nv,hp,v6 c3,pc hp,J0 (iJ ho) λq hq=>?_,List.append_assoc]
  ·rfl
  ·have h1:=hm q (am _ hq);have h2:=hlt _ (a8 hq);unfold dA at h1 ⊢;rw[List.any_append,h1,e6,List.any_nil,Bool.or_false,e4,wn];intro e;rw[e,c9] at h2;cases h2
def Cw{full:List ak}:∀{ps:List ak} {i:Nat},full.drop i=ps->jx full (UJ i ps)=(ps.filter λp=>!(decide (p.aT=[]))).map λp=>(p.name,p.aT)
 | [],_,_=>rfl
 | p::ps,i,h=>by
  have hp:full[i]?=some p:=by
   have:=rc (λl=>l[0]?) h;simpa using this
  have h2:full.drop (i+1)=ps:=by
   have:=rc (List.drop 1) h;simpa using this
  have ih:=Cw h2
  have hi:vu full (i:Int)=p.aT:=by unfold vu;rw[Int.toNat_natCast,hp]
  unfold jx at ih ⊢;rw[UJ,ct,b7,ih,hi];by_cases e:p.aT=[]
  ·rw[ut e,wl e];rfl
  ·rw[v6 e,wd e];rfl
def Kf{part:List Nat}:∀{ps:List ak},eu (ps.map ak.name)=true->jM part ((ps.filter λp=>!(decide (p.aT=[]))).map λp=>(p.name,p.aT))=F0 ps part
 | [],_=>rfl
 | p::ps,ho=>by
  have ih:=Kf (part:=part) (iJ ho);have hlt:=nR (a:=p.name) (l:=ps.map ak.name) ho;unfold F0 at ih ⊢;rw[b7,b7];by_cases e:p.aT=[]
  ·rw[wl e];exact ih
  ·rw[wd e];by_cases h:part=p.name
   ·rw[wl h.symm];show jM part ((p.name,p.aT)::_)=_;rw[jM,ut h];refine rc (List.map _) (dd λq hq=>?_);have h2:=hlt _ (a8 hq);rw[wd (p:=q.name=part) λk=>by rw[k,h,c9] at h2;cases h2];simp
   ·rw[wd λk=>h k.symm];show jM part ((p.name,p.aT)::_)=(p.name,p.aT)::_;rw[jM,v6 h,ih]
variable{ps:List ak}
def Cx(ho:eu (ps.map ak.name)=true)(part:List Nat):GM ps part=F0 ps part:=by
 unfold GM;rw[J0 ho λ_ _=>rfl,nil_append,Cw (c0 (l:=ps)),Kf ho]
structure eR where
 name:List Nat
 kind:List Nat
 cond:aY
def cD(r:eR):List SV:=ah r.name::ah r.kind::aV r.cond
structure w8 where
 kind:List Nat
 slot:List Nat
 other:List Nat
 qk:List Nat
 to:Int
def eF(s:w8):List SV:=[ah s.kind,ah s.slot,ah s.other,ah s.qk,ab s.to]
structure ei where
 name:List Nat
 kind:List Nat
 key:List Nat
 after:Int
 within:Int
def bf(d:ei):List SV:=[ah d.name,ah d.kind,ah d.key,ab d.after,ab d.within]
structure qy where
 part:List Nat
 fN:List Nat
 to:Int
def dy(c:qy):List SV:=[ah c.part,ah c.fN,ab c.to]
structure gN where
 id:List Nat
 vehicle:List Nat
 members:List Int
 back:List Int
def bz(h:gN):List SV:=[ah h.id,ah h.vehicle,ao 1 h.members (aD ab),ao 1 h.back (aD ab)]
structure dS where
 rules:List eR
 fi:List w8
 dE:List ei
 mO:List qy
 bF:List eR
 holds:List gN
def aJ(b:dS):List SV:=[ao 8 b.rules cD,ao 5 b.fi eF,ao 5 b.dE bf,ao 3 b.mO dy,ao 8 b.bF cD,ao 4 b.holds bz]
structure aw where
 kind:Int
 part:List Nat
 name:List Nat
 deriving DecidableEq
def ai(f:aw):List SV:=[ab f.kind,ah f.part,ah f.name]
def rC(l:List qy)(part fN:List Nat)(day:Int):Bool:=l.any λx=>decide (x.part=part)&&(decide (x.fN=fN)&&decide (day<=x.to))
def rQ(c:List aM)(kind name other:List Nat):Bool:=match (dF c kind).bind λk=>pL k.bN name with
 | some s=>decide (0<=gf (λx=>decide (other=x)) s.kinds)&&decide (gf (λx=>decide (other=x)) s.kinds<s.normal)
 | none=>false
def xF(ps:List ak)(p:ak)(slot:List Nat):Bool:=ps.any λx=>decide (x.aT=p.aT)&&(decide (x.slot=slot)&&decide (x.kind=p.kind))
def ie(c:List aM)(fi:List w8)(ps:List ak)(part:List Nat)(day:Int):Bool:=match bE ps part with
 | none=>false
 | some p=>if p.aT=[] then true else match bE ps p.aT with
  | none=>false
  | some h=>rQ c h.kind p.slot p.kind||fi.any λs=>(decide (s.kind=h.kind)&&(decide (s.slot=p.slot)&&decide (s.other=p.kind)))&&(decide (day<=s.to)&&(decide (s.qk=[])||xF ps p s.qk))
def sh(d:ei):Bool:=cN d.name&&(cN d.kind&&(cN d.key&&(decide (1<=d.after)&&(decide (d.after<=7)&&(decide (0<=d.within)&&decide (d.within<=40000))))))
def Mo(part:List Nat)(day:Int)(e:br):Bool:=decide (e.part=part)&&decide (e.day<=day)
def DL(d:ei)(l:List br)(part:List Nat)(day:Int):List Int:=(l.filter λe=>Mo part day e&&(decide (e.op=6)&&decide (e.key=d.key))).map br.day
def rp(d:ei)(l:List br)(part:List Nat)(day:Int):List Int:=(l.filter λe=>Mo part day e&&decide (e.op=d.after)).map br.day
def qQ(d:ei)(notes:List Int)(a:Int×Bool)(n:Int):Int×Bool:=
 if (!(notes.any λm=>decide (n<=m)&&decide (m<=n+d.within))&&(!a.2||decide (n+d.within<a.1)))=true then (n+d.within,true) else a
def lU(d:ei)(l:List br)(part:List Nat)(day:Int):Int×Bool:=(rp d l part day).foldl (qQ d (DL d l part day)) (0,false)
def PZ(c:List aM)(l:List br)(day:Int):List ak×Int:=if oJ c=true then Kn false c (.mk 0 0 []) (eL (dY (eV day) l)) [] else ([],1)
def tZ(ds:List ei)(c:List aM)(l:List br)(part:List Nat)(day:Int):List (List Nat×Int):=
 match bE (PZ c l day).1 part with
 | none=>[]
 | some p=>if (PZ c l day).2≠0\/p.bq=true then [] else ds.filterMap λd=>if sh d=true/\d.kind=p.kind/\(lU d l part day).2=true then some (d.name,(lU d l part day).1) else none
def ic(ds:List ei)(c:List aM)(l:List br)(part:List Nat)(day:Int):List (List Nat):=Mx (((tZ ds c l part day).filter λx=>decide (x.2<day)).map (·.1))
def se(h:gN):Bool:=h.members.any λm=>!h.back.contains m
def nz(c:List aM)(b:dS)(l:List br)(ps:List ak)(day:Int)(p:ak):List aw:=
 ((b.rules.filter λr=>decide (r.kind=p.kind)&&(!rC b.mO p.name r.name day&&!(decide (lK ps r.cond p.name day=2)))).map λr=>⟨1,p.name,r.name⟩)++
 (((b.bF.filter λr=>decide (r.kind=p.kind)&&!(decide (lK ps r.cond p.name day=0))).map λr=>⟨5,p.name,r.name⟩)++
 ((ic b.dE c l p.name day).map (λn=>⟨3,p.name,n⟩)++
 (if ie c b.fi ps p.name day=true then [] else [⟨2,p.name,p.slot⟩])))
def qK(c:List aM)(b:dS)(l:List br)(ps:List ak)(vehicle:List Nat)(day:Int)(v:ak):List aw:=
 nz c b l ps day v++(((eb ps vehicle).flatMap λn=>nz c b l ps day (da ps n))++((b.holds.filter λh=>decide (h.vehicle=vehicle)&&se h).map λh=>⟨6,vehicle,h.id⟩))
def nZ(ps:List ak)(e:aY)(part:List Nat)(day:Int)(hlen:ps.length<=100000)(hps:∀p∈ps,p.props.length<=1000000)(he:gB e):PC prog 19 [.ag [ao 14 ps ae],.ag (aV e),ah part,ab day] (·=ab (lK ps e part day)):=by
 have hvr:=xu [114] [107] e ⟨by decide,by decide⟩ ⟨by decide,by decide⟩ he;rw[show(cN [114]&&(cN [107]&&oh e))=oh e from by rw[show cN [114]=true from rfl,show cN [107]=true from rfl];rfl] at hvr;have hro:=EI ps part i4
 have hak:oh e=true->EZ ps day e part (iX ps day e part):=λh=>by
  unfold oh at h;rw[be] at h;exact CG ps day hlen hps _ e part (Nat.lt_succ_self _) he h.2
 unfold EZ at hak;unfold lK;refine pB 25 Tryz.func19 ?_;rw[cf e] at hvr hak ⊢
 refine(zV) ?_;refine zZ [(2,ah part),(3,ab day),(4,.ip [ao 14 ps ae]),(5,.ptr 1 0)] 0 rfl (gE @ao.eq_1)<|zZ [(2,ah part),(3,ab day),(4,.ip [ao 14 ps ae]),(5,Bc e)] 1 rfl (gE @ao.eq_1)<|zA [(2,ah part),(3,ab day),(4,.ip [ao 14 ps ae]),(5,Bc e)] [] zH<|(zC)<|(zK hvr) ?_
 cases g:oh e
 ·exact(zR)<|(cK)<|zo [.tmp 8] (hq:=by rw[v6 (λh=>c3 h.1)])
 refine(zQ)<|(zK hro) ?_
 cases g2:decide (K2 ps part=[]);rotate_left
 ·exact(cM g2)<|(cK)<|zo [.tmp 8] (hq:=by rw[v6 (λh=>h.2 (ww g2))])
 exact(cM g2)<|(M4)<|(zK (hak g))<|(zR)<|zo [.tmp 8] (hq:=by rw[ut ⟨by trivial,wt g2⟩])
def C0{α:Type}{p:α->Bool}{l:List α}(h:∀(i:Nat) y,i<l.length->l[i]?=some y->p y=false):l.any p=false:=by
 rw[List.any_eq_false];intro x hx;obtain⟨i,hi⟩:=mem_iff_getElem?.1 hx;rw[h i x (bo hi) hi];decide
def CZ{α:Type}{p:α->Bool}{l:List α}{k:Nat}{x:α}(hx:l[k]?=some x)(hp:p x=true):l.any p=true:=List.any_eq_true.2 ⟨x,a6 hx,hp⟩
variable{fid:FuncId}{first:List SV}{cap:List SV}
def BA{l:List (qy)}(p:qy->Bool)(hlen:l.length<=1000000)(hp:∀x∈l,PC prog fid ((first++[.ag (dy x)])++cap) (·=an (p x)))(hg:cj first=true/\cj cap=true):PC prog 60 [ao 3 l dy,.fn fid first cap] (·=an (l.any p)):=by
 refine pB 17 Tryz.func60 ?_;have hn1:=λo:Nat=>cm (o:=o) hg.1;have hn2:=λo:Nat=>cm (o:=o) hg.2
 refine(aB @ao.eq_1)<|(zV)<|(zs) ?_;refine zL l (λk=>∀(i:Nat) y,i<k->l[i]?=some y->p y=false) (λk=>[(0,.sl l.length 3 (l.flatMap dy)),(1,.fn fid first cap),(7,.sl l.length 3 (l.flatMap dy)),(8,ab l.length),(9,ab k)]) (λk=>[]) zH zp ?_;intro k hk hall;refine zT l k ?_ ?_;rintro rfl;rotate_left;intro x hx hlt;rotate_left
 ·exact(fo)<|(zV)<|zo [.tmp 4] (hq:=by rw[C0 hall])
 ·refine(fw)<|(aB (cJ hlt (aL (e:=3) (enc:=dy) gc hx) @dy.eq_1))<|zA [(0,.sl l.length 3 (l.flatMap dy)),(1,.fn fid first cap),(6,.ptr 0 0),(7,.sl l.length 3 (l.flatMap dy)),(8,ab l.length),(9,ab k)] [.cells (dy x)] (cg (fk hn1 hn2 @dC @aA.{1}))<|(eQ @dy.eq_1)<|(zK (hp x (mem_iff_getElem?.2 ⟨k,hx⟩)) (hwk:=((cA.refl hg.1).app zr).app (cA.refl hg.2))) ?_;refine aN.nil ?_
  change aE _ _ _ _ _;cases hpx:p x
  ·refine(zN)<|(aB (zi hlt hlen)) ?_;refine zX hlt zH ?_
   intro i y hi hy;by_cases hik:i=k
   ·subst hik;rw[hx] at hy;cases hy;exact hpx
   ·exact hall i y i4 hy
  ·exact(cK)<|zo [.tmp 4] (hq:=by rw[CZ hx hpx])
def EK{l:List (w8)}(p:w8->Bool)(hlen:l.length<=1000000)(hp:∀x∈l,PC prog fid ((first++[.ag (eF x)])++cap) (·=an (p x)))(hg:cj first=true/\cj cap=true):PC prog 67 [ao 5 l eF,.fn fid first cap] (·=an (l.any p)):=by
 refine pB 17 Tryz.func67 ?_;have hn1:=λo:Nat=>cm (o:=o) hg.1;have hn2:=λo:Nat=>cm (o:=o) hg.2
 refine(aB @ao.eq_1)<|(zV)<|(zs) ?_;refine zL l (λk=>∀(i:Nat) y,i<k->l[i]?=some y->p y=false) (λk=>[(0,.sl l.length 5 (l.flatMap eF)),(1,.fn fid first cap),(7,.sl l.length 5 (l.flatMap eF)),(8,ab l.length),(9,ab k)]) (λk=>[]) zH zp ?_;intro k hk hall;refine zT l k ?_ ?_;rintro rfl;rotate_left;intro x hx hlt;rotate_left
 ·exact(fo)<|(zV)<|zo [.tmp 4] (hq:=by rw[C0 hall])
 ·refine(fw)<|(aB (cJ hlt (aL (e:=5) (enc:=eF) gc hx) @eF.eq_1))<|zA [(0,.sl l.length 5 (l.flatMap eF)),(1,.fn fid first cap),(6,.ptr 0 0),(7,.sl l.length 5 (l.flatMap eF)),(8,ab l.length),(9,ab k)] [.cells (eF x)] (cg (fk hn1 hn2 @dC @aA.{1}))<|(eQ @eF.eq_1)<|(zK (hp x (mem_iff_getElem?.2 ⟨k,hx⟩)) (hwk:=((cA.refl hg.1).app zr).app (cA.refl hg.2))) ?_;refine aN.nil ?_
  change aE _ _ _ _ _;cases hpx:p x
  ·refine(zN)<|(aB (zi hlt hlen)) ?_;refine zX hlt zH ?_
   intro i y hi hy;by_cases hik:i=k
   ·subst hik;rw[hx] at hy;cases hy;exact hpx
   ·exact hall i y i4 hy
  ·exact(cK)<|zo [.tmp 4] (hq:=by rw[CZ hx hpx])
def Hu{l:List (ak)}(p:ak->Bool)(hlen:l.length<=1000000)(hp:∀x∈l,PC prog fid ((first++[.ag (ae x)])++cap) (·=an (p x)))(hg:cj first=true/\cj cap=true):PC prog 151 [ao 14 l ae,.fn fid first cap] (·=an (l.any p)):=by
 refine pB 17 Tryz.func151 ?_;have hn1:=λo:Nat=>cm (o:=o) hg.1;have hn2:=λo:Nat=>cm (o:=o) hg.2
 refine(aB @ao.eq_1)<|(zV)<|(zs) ?_;refine zL l (λk=>∀(i:Nat) y,i<k->l[i]?=some y->p y=false) (λk=>[(0,.sl l.length 14 (l.flatMap ae)),(1,.fn fid first cap),(7,.sl l.length 14 (l.flatMap ae)),(8,ab l.length),(9,ab k)]) (λk=>[]) zH zp ?_;intro k hk hall;refine zT l k ?_ ?_;rintro rfl;rotate_left;intro x hx hlt;rotate_left
 ·exact(fo)<|(zV)<|zo [.tmp 4] (hq:=by rw[C0 hall])
 ·refine(fw)<|(aB (cJ hlt (aL (e:=14) (enc:=ae) gc hx) @ae.eq_1))<|zA [(0,.sl l.length 14 (l.flatMap ae)),(1,.fn fid first cap),(6,.ptr 0 0),(7,.sl l.length 14 (l.flatMap ae)),(8,ab l.length),(9,ab k)] [.cells (ae x)] (cg (fk hn1 hn2 @dC @aA.{1}))<|(eQ @ae.eq_1)<|(zK (hp x (mem_iff_getElem?.2 ⟨k,hx⟩)) (hwk:=((cA.refl hg.1).app zr).app (cA.refl hg.2))) ?_;refine aN.nil ?_
  change aE _ _ _ _ _;cases hpx:p x
  ·refine(zN)<|(aB (zi hlt hlen)) ?_;refine zX hlt zH ?_
   intro i y hi hy;by_cases hik:i=k
   ·subst hik;rw[hx] at hy;cases hy;exact hpx
   ·exact hall i y i4 hy
  ·exact(cK)<|zo [.tmp 4] (hq:=by rw[CZ hx hpx])
def Eg(x:qy)(part fN:List Nat)(day:Int):PC prog 61 ([.ag (dy x)]++[.ip [ah part],.ip [ah fN],.ip [ab day]]) (·=an (decide (x.part=part)&&(decide (x.fN=fN)&&decide (day<=x.to)))):=by
 refine pB 22 Tryz.func61 ?_;refine(aB @dy.eq_1) ?_;cases g1:decide (x.part=part)
 ·exact(aB g1)<|zo [.tmp 5]
 cases g2:decide (x.fN=fN)
 ·exact(aB (bm g1 g2))<|zo [.tmp 5]
 ·exact(aB (bm g1 g2))<|zo [.tmp 5]
def uG(l:List qy)(part fN:List Nat)(day:Int)(hlen:l.length<=1000000):PC prog 20 [ao 3 l dy,ah part,ah fN,ab day] (·=an (rC l part fN day)):=by
 have hs:=BA (l:=l) (λx=>decide (x.part=part)&&(decide (x.fN=fN)&&decide (day<=x.to))) (fid:=61) (first:=[]) (cap:=[.ip [ah part],.ip [ah fN],.ip [ab day]]) hlen (λx _=>Eg x part fN day) ⟨rfl,rfl⟩
 refine pB 12 Tryz.func20 ?_;refine(zV) ?_;exact zZ [(0,ao 3 l dy),(5,.ip [ah part]),(6,.ptr 1 0),(7,.ptr 2 0)] 0 rfl (gE @ao.eq_1)<|zZ [(0,ao 3 l dy),(5,.ip [ah part]),(6,.ip [ah fN]),(7,.ptr 2 0)] 1 rfl (gE @ao.eq_1)<|zZ [(0,ao 3 l dy),(5,.ip [ah part]),(6,.ip [ah fN]),(7,.ip [ab day])] 2 rfl (gE @ao.eq_1)<|zA [(0,ao 3 l dy),(5,.ip [ah part]),(6,.ip [ah fN]),(7,.ip [ab day])] [] zH<|(zC)<|(zK hs)<|(zR)<|zo [.tmp 8]
def Hf{l:List (Int)}(p:Int->Bool)(hlen:l.length<=1000000)(hp:∀x∈l,PC prog fid ((first++[ab x])++cap) (·=an (p x)))(hg:cj first=true/\cj cap=true):PC prog 160 [ao 1 l (aD ab),.fn fid first cap] (·=ab (gf p l)):=by
 refine pB 19 Tryz.func160 ?_;refine(aB @ao.eq_1)<|(zV)<|(zs) ?_;refine zL l (λk=>∀(i:Nat) y,i<k->l[i]?=some y->p y=false) (λk=>[(0,.sl l.length 1 (l.flatMap (aD ab))),(1,.fn fid first cap),(7,ab l.length),(8,ab k)]) (λk=>[]) zH zp ?_;intro k hk hall;refine zT l k ?_ ?_;rintro rfl;rotate_left;intro x hx hlt;rotate_left
 ·exact(fo)<|(zV)<|zo [.tmp 4] (hq:=by rw[iC hall])
 ·refine(fw)<|(zV)<|(eQ (cJ hlt (aL (e:=1) (enc:=(aD ab)) gc hx) @aD.eq_1))<|(zK (hp x (mem_iff_getElem?.2 ⟨k,hx⟩)) (hwk:=((cA.refl hg.1).app zr).app (cA.refl hg.2))) ?_;refine aN.nil ?_
  change aE _ _ _ _ _;cases hpx:p x
  ·refine(zN)<|(aB (zi hlt hlen)) ?_;refine zX hlt zH ?_
   intro i y hi hy;by_cases hik:i=k
   ·subst hik;rw[hx] at hy;cases hy;exact hpx
   ·exact hall i y i4 hy
  ·exact(cK)<|zo [.tmp 4] (hq:=by rw[mb hx hpx hall])
def wC{l:List (Int)}(p:Int->Bool)(hlen:l.length<=1000000)(hp:∀x∈l,PC prog fid ((first++[ab x])++cap) (·=an (p x)))(hg:cj first=true/\cj cap=true):PC prog 80 [ao 1 l (aD ab),.fn fid first cap] (·=an (l.any p)):=by
 refine pB 9 Tryz.func80 ?_;exact(jC)<|(zK (Hf p hlen hp hg) (hwk:=.cons (Wk.sl _ _ _) (.cons (.fn (cA.refl hg.1) (cA.refl hg.2)) .nil)))<|(zR)<|zo [.tmp 4] (hq:=by rw[nM])
def Bp(l:List Int)(s:Int)(hlen:l.length<=1000000):PC prog 161 [ao 1 l (aD ab),ab s] (·=ab (gf (λx=>decide (s=x)) l)):=by
 refine pB 19 Tryz.func161 ?_;refine(nD)<|(zs) ?_;refine zL l (λk=>∀(i:Nat) y,i<k->l[i]?=some y->decide (s=y)=false) (λk=>[(0,.sl l.length 1 (l.flatMap (aD ab))),(1,ab s),(7,ab l.length),(8,ab k)]) (λk=>[]) zH zp ?_;intro k hk hall;refine zT l k ?_ ?_;rintro rfl;rotate_left;intro x hx hlt;rotate_left
 ·exact(fo)<|(zV)<|zo [.tmp 4] (hq:=by rw[iC hall])
 ·refine(fw)<|(zV)<|(aB (cJ hlt (aL (e:=1) (enc:=aD ab) gc hx) @aD.eq_1)) ?_
  cases hpx:decide (s=x)
  ·refine(zN)<|(aB (zi hlt hlen)) ?_;refine zX hlt zH ?_
   intro i y hi hy;by_cases hik:i=k
   ·subst hik;rw[hx] at hy;cases hy;exact hpx
   ·exact hall i y i4 hy
  ·exact(cK)<|zo [.tmp 4] (hq:=by rw[mb hx hpx hall])
def vT(l:List Int)(s:Int)(hlen:l.length<=1000000):PC prog 82 [ao 1 l (aD ab),ab s] (·=an (l.contains s)):=by
 have hc:l.contains s=l.any λx=>decide (s=x):=by
  rw[Bool.eq_iff_iff,List.contains_iff_mem,List.any_eq_true];exact⟨λh=>⟨s,h,wl rfl⟩,λ⟨x,h,e⟩=>by rw[ww e];exact h⟩
 rw[hc]
 refine pB 9 Tryz.func82 ?_;exact(jC)<|(zK (Bp l s hlen))<|(zR)<|zo [.tmp 4] (hq:=by rw[nM])
def MO(h:gN)(m:Int)(hlen:h.back.length<=1000000):PC prog 81 ([ab m]++[.ip (bz h)]) (·=an (!h.back.contains m)):=by
 refine pB 9 Tryz.func81 ?_;exact(zV)<|(eQ @bz.eq_1)<|(zK (vT h.back m hlen))<|(zR)<|zo [.tmp 3]
def MP(h:gN)(hm:h.members.length<=1000000)(hb:h.back.length<=1000000):PC prog 32 [.ag (bz h)] (·=an (se h)):=by
 refine pB 7 Tryz.func32 ?_;refine(aB @bz.eq_1) ?_;exact zZ [(1,.ip (bz h))] 0 rfl (gE (bm @ao.eq_1 @bz.eq_1))<|zA [(1,.ip (bz h))] [] zH<|(eQ @bz.eq_1)<|(zK (wC (l:=h.members) (λm=>!h.back.contains m) (fid:=81) (first:=[]) (cap:=[.ip (bz h)]) hm (λm _=>MO h m hb) ⟨rfl,rfl⟩))<|(zR)<|zo [.tmp 2]
def Ey(l:List aM)(kind name other:List Nat)(hlen:l.length<=1000000)(hs:∀k∈l,k.bN.length<=1000000/\∀s∈k.bN,s.kinds.length<=1000000):PC prog 66 [.ag [ao 3 l ar],ah kind,ah name,ah other] (·=an (rQ l kind name other)):=by
 refine pB 34 Tryz.func66 ?_;have hF:=AU l kind name hlen λk hk=>(hs k hk).1;refine(jC) ?_;unfold rQ
 cases hf:(dF l kind).bind λk=>pL k.bN name with
 | none=>
  rw[hf] at hF
  exact(zK hF (hfl:=.inr zr))<|(cM (cJ @jf.eq_1 @bJ.eq_1 @kj.zero.eq_1))<|(zC)<|(zK (oD [] other ge) (hwk:=cA.refl rfl))<|(zR)<|(zV)<|zo [.tmp 8]
 | some q=>
  have hq:q.kinds.length<=1000000:=by
   obtain⟨k,hk,h2⟩:=ul hf;exact(hs k (cd hk)).2 q (cd h2)
  rw[hf] at hF;have hI:=oD q.kinds other hq;obtain⟨j,hj⟩:∃j,j=gf (λx=>decide (other=x)) q.kinds:=⟨_,rfl⟩;rw[<-hj] at hI
  refine(zK hF (hfl:=.inr zr))<|(cM (bm @jf.eq_1 @bJ.eq_1))<|(zC)<|(zK hI)<|(zR) ?_
  cases g:decide (0<=j)
  ·exact(aB g)<|zo [.tmp 8] (hq:=by show _=an (decide (0<=gf (λx=>decide (other=x)) q.kinds)&&decide (gf (λx=>decide (other=x)) q.kinds<q.normal));rw[<-hj,g];rfl)
  ·exact(aB g)<|zo [.tmp 8] (hq:=by show _=an (decide (0<=gf (λx=>decide (other=x)) q.kinds)&&decide (gf (λx=>decide (other=x)) q.kinds<q.normal));rw[<-hj,g];rfl)
def D8(x p h:ak)(slot:List Nat):PC prog 152 ([.ag (ae x)]++[.ip (ae p++ae h),.ip [ah slot]]) (·=an (decide (x.aT=p.aT)&&(decide (x.slot=slot)&&decide (x.kind=p.kind)))):=by
 refine pB 25 Tryz.func152 ?_;refine(aB @ae.eq_1) ?_;cases g1:decide (x.aT=p.aT)
 ·exact(aB (fk g1 @ae.eq_1 @cons_append.{0} @nil_append.{0}))<|zo [.tmp 4]
 cases g2:decide (x.slot=slot)
 ·exact(aB (kY g1 g2 @ae.eq_1 @cons_append.{0} @nil_append.{0}))<|zo [.tmp 4]
 ·exact(aB (kY g1 g2 @ae.eq_1 @cons_append.{0} @nil_append.{0}))<|zo [.tmp 4]
def D9(ps:List ak)(p h:ak)(slot:List Nat)(hlen:ps.length<=1000000):PC prog 69 [.ag (ae p++ae h),.ag [ao 14 ps ae],ah slot] (·=an (xF ps p slot)):=by
 have hs:=Hu (l:=ps) (λx=>decide (x.aT=p.aT)&&(decide (x.slot=slot)&&decide (x.kind=p.kind))) (fid:=152) (first:=[]) (cap:=[.ip (ae p++ae h),.ip [ah slot]]) hlen (λx _=>D8 x p h slot) ⟨rfl,rfl⟩
 refine pB 11 Tryz.func69 ?_;refine(aB (cJ @ae.eq_1 @cons_append.{0} @nil_append.{0})) ?_;exact zZ [(3,.ip (ae p++ae h)),(4,.ptr 1 0),(5,.ptr 2 0)] 0 rfl (gE (bm @ao.eq_1 @ae.eq_1))<|zZ [(3,.ip (ae p++ae h)),(4,.ip [ao 14 ps ae]),(5,.ptr 2 0)] 1 rfl (gE @ao.eq_1)<|zZ [(3,.ip (ae p++ae h)),(4,.ip [ao 14 ps ae]),(5,.ip [ah slot])] 2 rfl (gE @ao.eq_1)<|zA [(3,.ip (ae p++ae h)),(4,.ip [ao 14 ps ae]),(5,.ip [ah slot])] [] zH<|(zC)<|(zK hs)<|(zR)<|zo [.tmp 6]
def sub_eq(a b:w8):fY eG [AV.str a.kind,.str a.slot,.str a.other,.str a.qk,.int .i64 a.to] [AV.str b.kind,.str b.slot,.str b.other,.str b.qk,.int .i64 b.to]=(decide (a.kind=b.kind)&&(decide (a.slot=b.slot)&&(decide (a.other=b.other)&&(decide (a.qk=b.qk)&&decide (a.to=b.to))))):=by
 simp only[fY,eG,A0,sI,lH,cc,dc]
def Jh(s:w8)(x y z:List Nat):c8 prog .eql 147 (.agg [.str s.kind,.str s.slot,.str s.other,.str s.qk,.int .i64 s.to]) (.agg [.str x,.str y,.str z,.str s.qk,.int .i64 s.to])=some (.bool (decide (s.kind=x)&&(decide (s.slot=y)&&decide (s.other=z)))):=
 tj (ks:=[.s,.s,.s,.s,.i .i64]) zW zW (by simp only[aF,m6]) rfl rfl (by rw[sub_eq s ⟨x,y,z,s.qk,s.to⟩];simp)
def Hr(ps:List ak)(p h:ak)(day:Int)(s:w8)(hlen:ps.length<=1000000):PC prog 68 ([.ag (eF s)]++[.ip (ae h),.ip (ae p++ae h),.ip [ab day],.ip [ao 14 ps ae]]) (·=an ((decide (s.kind=h.kind)&&(decide (s.slot=p.slot)&&decide (s.other=p.kind)))&&(decide (day<=s.to)&&(decide (s.qk=[])||xF ps p s.qk)))):=by
 have heq:=Jh s h.kind p.slot p.kind;generalize (decide (s.kind=h.kind)&&(decide (s.slot=p.slot)&&decide (s.other=p.kind)))=g1 at heq;have hb:=D9 ps p h s.qk hlen;refine pB 42 Tryz.func68 ?_;rw[show ae p++ae h=[ah p.name,ah p.kind,ah p.aT,ah p.slot,ab p.made,ab p.since,an p.bq,ao 2 p.props aI,ab p.l1,ab p.l2,ab p.l3,ab p.l4,ab p.l5,ab p.l6,ah h.name,ah h.kind,ah h.aT,ah h.slot,ab h.made,ab h.since,an h.bq,ao 2 h.props aI,ab h.l1,ab h.l2,ab h.l3,ab h.l4,ab h.l5,ab h.l6] from rfl] at hb ⊢
 refine(aB @eF.eq_1)<|(aB (bm @ae.eq_1 @eF.eq_1)) ?_
 cases g1
 ·exact(aB heq)<|zo [.tmp 6]
 cases g2:decide (day<=s.to)
 ·exact(aB (bm heq g2))<|zo [.tmp 6]
 cases g3:decide (s.qk=[]);rotate_left
 ·exact(aB (cJ heq g2 g3))<|zo [.tmp 6]
 exact(eQ (cJ heq g2 g3))<|(zK hb)<|(zR)<|zo [.tmp 6]
abbrev wP(c:List aM)(fi:List w8)(ps:List ak)(part:List Nat)(day:Int):Fm:=[(1,ao 5 fi eF),(3,ah part),(5,.ip [ao 3 c ar]),(7,.ip [ao 14 ps ae]),(9,.ip [ab day])]
def qt(c:List aM)(fi:List w8)(ps:List ak)(part:List Nat)(day:Int)(hc:mI c)(hsub:fi.length<=1000000)(hlen:ps.length<=1000000):PC prog 23 [.ag [ao 3 c ar],ao 5 fi eF,.ag [ao 14 ps ae],ah part,ab day] (·=an (ie c fi ps part day)):=by
 have hf:=gn ps part hlen;have hs8:∀k∈c,k.bN.length<=1000000/\∀s∈k.bN,s.kinds.length<=1000000:=λk hk=>⟨(hc.kind k hk).2,λs hs=>(hc.slot k hk s hs).2⟩;unfold ie
 refine pB 56 Tryz.func23 ?_;refine(zV) ?_;refine zZ [(1,ao 5 fi eF),(3,ah part),(5,.ip [ao 3 c ar]),(7,.ptr 1 0),(9,.ptr 2 0)] 0 rfl (gE @ao.eq_1)<|zZ [(1,ao 5 fi eF),(3,ah part),(5,.ip [ao 3 c ar]),(7,.ip [ao 14 ps ae]),(9,.ptr 2 0)] 1 rfl (gE @ao.eq_1)<|zZ (wP c fi ps part day) 2 rfl (gE @ao.eq_1)<|zA (wP c fi ps part day) [] zH<|(zC) ?_;refine aN.k ii rfl rfl ii rfl zc (hf) (zw) (.inr (cA.refl (by cases bE ps part<;>rfl))) ?_
 cases hm:bE ps part with
 | none=>
  exact(cM (cJ @jf.eq_1 @ae.eq_1 @ak.zero.eq_1))<|(xw)<|(zV)<|zo [.tmp 10]
 | some p=>
  have hf2:=gn ps p.aT hlen;refine(cM (bm @jf.eq_1 @ae.eq_1)) ?_;cases g1:decide (p.aT=[]);rotate_left
  ·exact(aB g1)<|(cK)<|zo [.tmp 10] (hq:=by show _=an (if p.aT=[] then true else _);rw[ut (ww g1)])
  refine(aB g1)<|(zN) ?_;refine zZ ((11,.ip (ae p))::wP c fi ps part day) 0 rfl (gE (bm @ao.eq_1 @ae.eq_1))<|zA ((11,.ip (ae p))::wP c fi ps part day) [] zH<|(eQ @ae.eq_1) ?_;refine aN.k ii rfl rfl ii rfl zc (hf2) (zw) (.inr (cA.refl (by cases bE ps p.aT<;>rfl))) ?_
  cases hm2:bE ps p.aT with
  | none=>
   exact(cM (cJ @jf.eq_1 @ae.eq_1 @ak.zero.eq_1))<|(aB @ae.eq_1)<|(zB)<|(xw)<|(zV)<|zo [.tmp 10] (hq:=by show _=an (if p.aT=[] then true else _);rw[v6 (wt g1),hm2])
  | some h=>
   refine(cM (bm @jf.eq_1 @ae.eq_1)) ?_;refine zZ ((13,.ip (ae h))::(12,an true)::(11,.ip (ae p))::wP c fi ps part day) 0 rfl (gE (bm @ao.eq_1 @ae.eq_1))<|zA ((13,.ip (ae h))::(12,an true)::(11,.ip (ae p))::wP c fi ps part day) [] zH<|(aB @ae.eq_1) ?_;refine zZ ((14,.ip (ae p++ae h))::(13,.ip (ae h))::(12,an true)::wP c fi ps part day) 0 rfl (gE (bm @ao.eq_1 @ae.eq_1))<|zA ((14,.ip (ae p++ae h))::(13,.ip (ae h))::(12,an true)::wP c fi ps part day) [] zH ?_
   have hs:=EK (l:=fi) (λs=>(decide (s.kind=h.kind)&&(decide (s.slot=p.slot)&&decide (s.other=p.kind)))&&(decide (day<=s.to)&&(decide (s.qk=[])||xF ps p s.qk))) (fid:=68) (first:=[]) (cap:=[.ip (ae h),.ip (ae p++ae h),.ip [ab day],.ip [ao 14 ps ae]]) hsub (λs _=>Hr ps p h day s hlen) ⟨rfl,rfl⟩
   refine(zB)<|(CP)<|(eQ (cJ @ae.eq_1 @cons_append.{0} @nil_append.{0}))<|(zK (Ey c h.kind p.slot p.kind hc.len hs8)) ?_
   cases hn:rQ c h.kind p.slot p.kind
   ·exact(zR)<|(M4)<|(zK hs)<|(zR)<|zo [.tmp 10] (hq:=by show _=an (if p.aT=[] then true else _);rw[v6 (wt g1),hm2];show _=an (rQ c h.kind p.slot p.kind||_);rw[hn];rfl)
   ·exact(zR)<|(cK)<|zo [.tmp 10] (hq:=by show _=an (if p.aT=[] then true else _);rw[v6 (wt g1),hm2];show _=an (rQ c h.kind p.slot p.kind||_);rw[hn];rfl)
structure CQ (d:ei):Prop where
 name:fj d.name
 kind:fj d.kind
 key:fj d.key
def Jg(d:ei)(hd:CQ d):PC prog 146 [.ag (bf d)] (·=an (sh d)):=by
 refine pB 43 Tryz.func146 ?_;unfold sh
 refine(aB @bf.eq_1) ?_;refine zZ [(1,.ip (bf d))] 0 rfl (gE @bf.eq_1)<|zA [(1,.ip (bf d))] [] zH<|(eQ @bf.eq_1)<|(zK (dZ d.name hd.name)) ?_
 cases cN d.name
 ·exact(zR)<|zo [.tmp 2]
 refine(MY @bf.eq_1)<|(zK (dZ d.kind hd.kind)) ?_
 cases cN d.kind
 ·exact(zR)<|zo [.tmp 2]
 refine(MY @bf.eq_1)<|(zK (dZ d.key hd.key)) ?_
 cases cN d.key
 ·exact(zR)<|zo [.tmp 2]
 cases g1:decide (1<=d.after)
 ·exact(cM (bm g1 @bf.eq_1))<|zo [.tmp 2]
 cases g2:decide (d.after<=7)
 ·exact(cM (cJ g1 g2 @bf.eq_1))<|zo [.tmp 2]
 cases g3:decide (0<=d.within)
 ·exact(cM (fk g1 g2 g3 @bf.eq_1))<|zo [.tmp 2]
 ·exact(cM (fk g1 g2 g3 @bf.eq_1))<|zo [.tmp 2]
def MQ(e:br)(part:List Nat)(day:Int):PC prog 228 ([.ag (au e)]++[.ip [ah part],.ip [ab day]]) (·=an (Mo part day e)):=by
 refine pB 15 Tryz.func228 ?_;unfold Mo;rw[dq];refine(zV) ?_;cases g1:decide (e.part=part)
 ·exact(aB g1)<|zo [.tmp 4]
 ·exact(aB g1)<|zo [.tmp 4]
def Hp(e:br)(d:ei):PC prog 230 ([.ag (au e)]++[.ip (bf d)]) (·=an (decide (e.op=6)&&decide (e.key=d.key))):=by
 refine pB 15 Tryz.func230 ?_;rw[dq];refine(zV) ?_;cases g1:decide (e.op=6)
 ·exact(aB g1)<|zo [.tmp 3]
 ·exact(aB (bm g1 @bf.eq_1))<|zo [.tmp 3]
def G1(e:br)(d:ei):PC prog 231 ([.ag (au e)]++[.ip (bf d)]) (·=an (decide (e.op=d.after))):=by
 refine pB 10 Tryz.func231 ?_;rw[dq]
 exact(zV)<|(aB @bf.eq_1)<|zo [.tmp 3]
def MM(n b:Int)(d:ei)(hb:0<=b/\b<=40000)(hw:0<=d.within/\d.within<=40000):PC prog 232 ([ab n]++[.ip [ab b],.ip (bf d)]) (·=an (decide (b<=n)&&decide (n<=b+d.within))):=by
 refine pB 17 Tryz.func232 ?_;refine(zV) ?_;cases g1:decide (b<=n)
 ·exact(aB g1)<|zo [.tmp 4]
 ·exact(aB (cJ g1 @bf.eq_1 (BM (P:=prog) (t:=3) (show -9223372036854775808<=b+d.within/\b+d.within<=9223372036854775807 from⟨by omega,by omega⟩))))<|zo [.tmp 4]
structure nE where
 f:SV
 p:br->Bool
def lj(c:nE):List SV:=[c.f]
def nE.ok(c:nE):Prop:=∃g cap,c.f=.fn g [] cap/\cj cap=true/\∀e,PC prog g ([.ag (au e)]++cap) (·=an (c.p e))
def G6(c:nE)(hc:c.ok)(e:br):PC prog 283 ([c.f]++[.ip (au e)]) (·=an (!(c.p e))):=by
 obtain⟨g,cap,h1,h2,h3⟩:=hc;have h3:=h3 e;have hk2:∀o:Nat,cap.map (aP o)=cap:=λo=>bV h2;have hn2:∀o:Nat,eI o cap=false:=λo=>cm h2;rw[h1];refine pB 8 Tryz.func283 ?_;rw[dq] at h3 ⊢
 exact(jC)<|(zK h3 (hwk:=.cons (.ag zr) (cA.refl h2)))<|(zR)<|zo [.tmp 3]
def Jv{l:List nE}(e:br)(hlen:l.length<=1000000)(hok:∀c∈l,c.ok):PC prog 313 [ao 1 l lj,.fn 283 [] [.ip (au e)]] (·=ab (gf (λc=>!(c.p e)) l)):=by
 refine pB 19 Tryz.func313 ?_;refine(aB @ao.eq_1)<|(zV)<|(zs) ?_;refine zL l (λk=>∀(i:Nat) y,i<k->l[i]?=some y->(!(y.p e))=false) (λk=>[(0,.sl l.length 1 (l.flatMap lj)),(1,.fn 283 [] [.ip (au e)]),(7,ab l.length),(8,ab k)]) (λk=>[]) zH zp ?_;intro k hk hall;refine zT l k ?_ ?_;rintro rfl;rotate_left;intro x hx hlt;rotate_left
 ·exact(fo)<|(zV)<|zo [.tmp 4] (hq:=by rw[iC hall])
 ·have hxo:=hok x (a6 hx);have hd1:=G6 x hxo e;obtain⟨g,cap,h1,h2,_⟩:=hxo;have hxl:=aL (e:=1) (enc:=lj) gc hx;have hn2:∀o:Nat,eI o cap=false:=λo=>cm h2;rw[show lj x=[x.f] from rfl,h1] at hxl;rw[h1] at hd1
  refine(fw)<|(zV)<|(eQ (bm hlt hxl))<|(zK hd1 (hwk:=.cons (.fn .nil (cA.refl h2)) zr)) ?_;refine aN.nil ?_
  change aE _ _ _ _ _;cases hpx:x.p e
  ·exact(cK)<|zo [.tmp 4] (hq:=by rw[mb (p:=λc=>!(c.p e)) hx (by rw[hpx];rfl) hall])
  ·refine(zN)<|(aB (zi hlt hlen)) ?_;refine zX hlt zH ?_
   intro i y hi hy;by_cases hik:i=k
   ·subst hik;rw[hx] at hy;cases hy;rw[hpx];rfl
   ·exact hall i y i4 hy
def Je{l:List nE}(e:br)(hlen:l.length<=1000000)(hok:∀c∈l,c.ok):PC prog 282 [ao 1 l lj,.fn 283 [] [.ip (au e)]] (·=an (l.any λc=>!(c.p e))):=by
 refine pB 9 Tryz.func282 ?_;exact(jC)<|(zK (Jv (l:=l) e hlen hok))<|(zR)<|zo [.tmp 4] (hq:=by rw[nM])
def wh(conds:List nE)(e:br):Bool:=!(conds.any λc=>!(c.p e))
def gG(conds:List nE)(l:List br):List Int:=(l.filter (wh conds)).map br.day
variable{l:List br}
def LD{conds:List nE}{k:Nat}{x:br}(h:l[k]?=some x):gG conds (l.take (k+1))=gG conds (l.take k)++(if wh conds x=true then [x.day] else []):=by
 unfold gG;rw[cq h,c5,bh];cases hp:wh conds x<;>simp[hp]
def AA(l:List br)(conds:List nE)(hlen:l.length<=100000)(hcl:conds.length<=1000000)(hok:∀c∈conds,c.ok):PC prog 229 [ao 14 l au,ao 1 conds lj] (·=ao 1 (gG conds l) (aD ab)):=by
 refine pB 25 Tryz.func229 ?_
 have hlenl:l.length<=1000000:=by omega
 refine(nD)<|(zV)<|(zs) ?_;refine zL l (λk=>True) (λk=>[(1,ao 1 conds lj),(5,bY 2 1 (gG conds (l.take k)).length),(8,ao 14 l au),(9,ab l.length),(10,ab k)]) (λk=>HV 2 (gG conds (l.take k)) (aD ab)) (cg (kY @take_zero.{0} (show gG conds []=[] from rfl) @i5.{0} @jW @DM)) zp ?_;intro k hk hall;refine zT l k ?_ ?_;rintro rfl;rotate_left;intro x hx hlt;rotate_left
 ·refine(fo) ?_;rw[bk]
  exact(zV)<|zo [.tmp 4] (r:=ao 1 (gG conds l) (aD ab)) (hw:=Lf (enc:=aD ab) (e:=1) gc (λ_=>rfl) (gG conds l))
 have hsn:=LD (conds:=conds) hx;have hxl:=aL (e:=14) (enc:=au) gc hx
 have hol:(gG conds (l.take k)).length<=k:=by
  unfold gG;rw[ac];exact bc (bt _ _) (by rw[List.length_take];omega)
 generalize hO:gG conds (l.take k)=out at hol hsn;have hfl:=aU (enc:=aD ab) (e:=1) gc out;have hkc:=λo=>bp (enc:=aD ab) gc o out;have hcf:=Je x hcl hok;refine(fw) ?_;by_cases hk0:out=[]
 ·rw[show HV 2 out (aD ab)=[] by rw[hk0];rfl,show bY 2 1 out.length=bH by rw[hk0];rfl]
  refine(aB (cJ hlt hxl @au.eq_1))<|zA [(1,ao 1 conds lj),(5,bH),(7,.ptr 0 0),(8,ao 14 l au),(9,ab l.length),(10,ab k)] [.cells (au x)] zH ?_;refine zZ [(1,ao 1 conds lj),(5,bH),(7,.ip (au x)),(8,ao 14 l au),(9,ab l.length),(10,ab k)] 0 rfl ⟨.inl rfl,.inl rfl,.inr (.ptr rfl (cA.refl (bU x)) (by rw[cL];decide)),zj⟩<|zA [(1,ao 1 conds lj),(5,bH),(7,.ip (au x)),(8,ao 14 l au),(9,ab l.length),(10,ab k)] [.gone] zH<|(zC)<|(zK hcf (hfl:=.inr zr))<|(cM (show(!(conds.any λc=>!c.p x))=wh conds x from rfl)) ?_
  cases hpp:wh conds x
  ·rw[hpp,v6 g9,b8] at hsn;refine(zN) ?_
   have f1:bY 2 1 (gG conds (l.take (k+1))).length=bH:=by rw[hsn,hk0];rfl
   have f2:HV 2 (gG conds (l.take (k+1))) (aD ab)=[]:=by rw[hsn,hk0];rfl
   refine(aB (zi hlt hlenl)) ?_;refine zX hlt (cg (bm f1 f2)) trivial
  ·rw[hpp,ut rfl] at hsn;refine(zY) ?_
   have f1:bY 2 1 (gG conds (l.take (k+1))).length=.buf 2 1 1 none:=by rw[hsn,hk0];rfl
   have f2:HV 2 (gG conds (l.take (k+1))) (aD ab)=[.gone,.gone,.cells [ab x.day]]:=by rw[hsn,hk0];rfl
   refine(aB @dq)<|(aB (zi hlt hlenl)) ?_;refine zX hlt (cg (bm f1 f2)) trivial
 ·have hk1:¬out.length=0:=λh=>hk0 (t8 h);rw[Cn hk0,dQ hk1]
  refine(aB (fk hlt hxl @au.eq_1 Pf))<|zA [(1,ao 1 conds lj),(5,.buf 2 out.length 1 none),(7,.ptr 3 0),(8,ao 14 l au),(9,ab l.length),(10,ab k)] [.gone,.gone,.cells (out.flatMap (aD ab)),.cells (au x)] (cg hkc) ?_;refine zZ [(1,ao 1 conds lj),(5,.buf 2 out.length 1 none),(7,.ip (au x)),(8,ao 14 l au),(9,ab l.length),(10,ab k)] 3 rfl ⟨.inl rfl,.inl rfl,.inr (.ptr rfl (cA.refl (bU x)) (by rw[cL];decide)),zj⟩<|zA [(1,ao 1 conds lj),(5,.buf 2 out.length 1 none),(7,.ip (au x)),(8,ao 14 l au),(9,ab l.length),(10,ab k)] [.gone,.gone,.cells (out.flatMap (aD ab))] zH<|(zC)<|(zK hcf (hfl:=.inr zr))<|(cM (show(!(conds.any λc=>!c.p x))=wh conds x from rfl)) ?_
  cases hpp:wh conds x
  ·rw[hpp,v6 g9,b8] at hsn;refine(zN) ?_
   have f1:bY 2 1 (gG conds (l.take (k+1))).length=.buf 2 out.length 1 none:=by rw[hsn,dQ hk1]
   have f2:HV 2 (gG conds (l.take (k+1))) (aD ab)=[.gone,.gone,.cells (out.flatMap (aD ab))]:=by rw[hsn,Cn hk0];rfl
   refine(aB (zi hlt hlenl)) ?_;refine zX hlt (cg (bm f1 f2)) trivial
  ·rw[hpp,ut rfl] at hsn;refine(zY) ?_
   have f1:bY 2 1 (gG conds (l.take (k+1))).length=.buf 2 (out.length+1) 1 none:=by rw[hsn,li];rfl
   have f2:HV 2 (gG conds (l.take (k+1))) (aD ab)=[.gone,.gone,.cells ((out++[x.day]).flatMap (aD ab))]:=by rw[hsn,Gu];rfl
   have happ:=kr (enc:=aD ab) (e:=1) gc (λ_=>rfl) 2 out x.day;rw[show aD ab x.day=[ab x.day] from rfl] at happ
   refine(aB (EY @dq hfl hkc Pf (show out.length<=1000000 by omega) @al happ))<|(aB (zi hlt hlenl)) ?_;refine zX hlt (cg (bm f1 f2)) trivial
def HK:di prog 108=some .ej:=by kernel_rfl
def DU(part:List Nat)(day:Int):nE:=⟨.fn 228 [] [.ip [ah part],.ip [ab day]],Mo part day⟩
def Gt(d:ei):nE:=⟨.fn 230 [] [.ip (bf d)],λe=>decide (e.op=6)&&decide (e.key=d.key)⟩
def ym(d:ei):nE:=⟨.fn 231 [] [.ip (bf d)],λe=>decide (e.op=d.after)⟩
def KH(part:List Nat)(day:Int):(DU part day).ok:=⟨_,_,rfl,rfl,λe=>MQ e part day⟩
def OL(d:ei):(Gt d).ok:=⟨_,_,rfl,rfl,λe=>Hp e d⟩
def Lk(d:ei):(ym d).ok:=⟨_,_,rfl,rfl,λe=>G1 e d⟩
def Fv(a b:nE)(l:List br):gG [a,b] l=(l.filter λe=>a.p e&&b.p e).map br.day:=by
 unfold gG;refine rc _ (dd λe _=>?_);unfold wh;cases h1:a.p e<;>cases h2:b.p e<;>simp[h1,h2]
def Ig(d:ei)(l:List br)(part:List Nat)(day:Int):gG [DU part day,Gt d] l=DL d l part day:=Fv _ _ _
def Fu(d:ei)(l:List br)(part:List Nat)(day:Int):gG [DU part day,ym d] l=rp d l part day:=Fv _ _ _
def tq(p:br->Bool)(l:List br):((l.filter p).map br.day).length<=l.length:=by rw[List.length_map];exact List.length_filter_le _ _
def Jy(d:ei)(l:List br)(part:List Nat)(day:Int)(hlen:l.length<=100000)(hw:0<=d.within/\d.within<=40000)(hbd:∀n∈rp d l part day,0<=n/\n<=40000):PC prog 147 [.ag (bf d),ao 14 l au,ah part,ab day] (·=.cx [ab (lU d l part day).1,an (lU d l part day).2]):=by
 have hd1:=AA l [DU part day,Gt d] hlen ge (by intro c hc;rcases t7 hc with rfl | hc;exact KH _ _;rw[t6 hc];exact OL _);have hd2:=AA l [DU part day,ym d] hlen ge (by intro c hc;rcases t7 hc with rfl | hc;exact KH _ _;rw[t6 hc];exact Lk _);rw[Ig] at hd1;rw[Fu] at hd2;have hnl:(DL d l part day).length<=l.length:=tq _ _;have hbl:(rp d l part day).length<=l.length:=tq _ _;refine pB 57 Tryz.func147 ?_;unfold lU;generalize DL d l part day=notes at hd1 hnl ⊢;generalize rp d l part day=begins at hd2 hbl hbd ⊢
 have hlenb:begins.length<=1000000:=by omega
 refine(aB @bf.eq_1) ?_;refine zZ [(1,ao 14 l au),(4,.ip (bf d)),(6,.ptr 1 0),(7,.ptr 2 0)] 0 rfl (gE (bm @ao.eq_1 @bf.eq_1))<|zZ [(1,ao 14 l au),(4,.ip (bf d)),(6,.ip [ah part]),(7,.ptr 2 0)] 1 rfl (gE (bm @ao.eq_1 @bf.eq_1))<|zZ [(1,ao 14 l au),(4,.ip (bf d)),(6,.ip [ah part]),(7,.ip [ab day])] 2 rfl (gE (bm @ao.eq_1 @bf.eq_1))<|zA [(1,ao 14 l au),(4,.ip (bf d)),(6,.ip [ah part]),(7,.ip [ab day])] [] zH<|(zV)<|(eQ (fk @HK (show AV.ej.cells=[AV.ej] from rfl) @aP.eq_1 @eI.eq_1)) ?_;refine oZ [(22,ao 1 [DU part day,Gt d] lj),(19,ao 14 l au),(10,.fn 228 [] [.ip [ah part],.ip [ab day]]),(1,ao 14 l au),(4,.ip (bf d))] 0 rfl ⟨.inr (.buf rfl (cA.refl rfl) (al _)),zj⟩<|oA [(22,ao 1 [DU part day,Gt d] lj),(19,ao 14 l au),(10,.fn 228 [] [.ip [ah part],.ip [ab day]]),(1,ao 14 l au),(4,.ip (bf d))] [] zH<|(zK hd1 (hfl:=.inr zr))<|(zR)<|(zV)<|(eQ (fk @HK (show AV.ej.cells=[AV.ej] from rfl) @aP.eq_1 @eI.eq_1)) ?_;refine oZ [(27,ao 1 [DU part day,ym d] lj),(24,ao 14 l au),(10,.fn 228 [] [.ip [ah part],.ip [ab day]]),(1,ao 14 l au),(4,.ip (bf d)),(11,ao 1 notes (aD ab)),(12,ab 0),(13,an false)] 0 rfl ⟨.inr (.buf rfl (cA.refl rfl) (al _)),zj⟩<|oA [(27,ao 1 [DU part day,ym d] lj),(24,ao 14 l au),(10,.fn 228 [] [.ip [ah part],.ip [ab day]]),(1,ao 14 l au),(4,.ip (bf d)),(11,ao 1 notes (aD ab)),(12,ab 0),(13,an false)] [] zH<|(zK hd2 (hfl:=.inr zr))<|(zR)<|(zs) ?_;refine BF begins (λk (aa:Int×Bool)=>0<=aa.1/\aa=(begins.take k).foldl (qQ d notes) (0,false)) (λk aa=>[(4,.ip (bf d)),(11,ao 1 notes (aD ab)),(12,ab aa.1),(13,an aa.2),(28,ao 1 begins (aD ab)),(29,ab begins.length),(30,ab k)]) (λk aa=>[]) ((0,false)) zH (by exact⟨Int.le_refl _,rfl⟩) ?_;intro k aa hk hall;refine zT begins k ?_ ?_;rintro rfl;rotate_left;intro x hx hlt;rotate_left
 ·refine(fo) ?_;obtain⟨_,haa⟩:=hall;rw[bk] at haa;rw[<-haa]
  exact(zV)<|kn [.tmp 8,.tmp 9]
 have hst:(begins.take (k+1)).foldl (qQ d notes) (0,false)=qQ d notes aa x:=by rw[cq hx,bw,<-hall.2];rfl
 obtain⟨hx0,hx1⟩:=hbd x (a6 hx);have hct:=wC (l:=notes) (λn=>decide (x<=n)&&decide (n<=x+d.within)) (fid:=232) (first:=[]) (cap:=[.ip [ab x],.ip (bf d)]) i4 (λn _=>MM n x d ⟨hx0,hx1⟩ hw) ⟨rfl,rfl⟩;rw[qQ] at hst;generalize (notes.any λn=>decide (x<=n)&&decide (n<=x+d.within))=met at hct hst
 refine(fw)<|(aB (cJ hlt (aL (e:=1) (enc:=aD ab) gc hx) @aD.eq_1))<|zA [(4,.ip (bf d)),(11,ao 1 notes (aD ab)),(12,ab aa.1),(13,an aa.2),(15,.ptr 0 0),(28,ao 1 begins (aD ab)),(29,ab begins.length),(30,ab k)] [.cells [ab x]] zH ?_;refine zZ [(4,.ip (bf d)),(11,ao 1 notes (aD ab)),(12,ab aa.1),(13,an aa.2),(15,.ip [ab x]),(28,ao 1 begins (aD ab)),(29,ab begins.length),(30,ab k)] 0 rfl ⟨.inl rfl,.inl rfl,.inl rfl,.inl rfl,.inr (.ptr rfl (cA.refl rfl) (a7 _)),zj⟩<|zA [(4,.ip (bf d)),(11,ao 1 notes (aD ab)),(12,ab aa.1),(13,an aa.2),(15,.ip [ab x]),(28,ao 1 begins (aD ab)),(29,ab begins.length),(30,ab k)] [] zH<|(zC)<|(zK hct)<|(zR)<|(aB (bm @bf.eq_1 (BM (P:=prog) (t:=3) (show -9223372036854775808<=x+d.within/\x+d.within<=9223372036854775807 from⟨by omega,by omega⟩)))) ?_
 cases met;rotate_left
 ·simp only[e5,Bool.false_and,c2,↓reduceIte] at hst
  refine(CP)<|(aB (zi hlt hlenb)) ?_;refine pw hlt (aa) zH (⟨hall.1,hst.symm⟩)
 obtain⟨a,fd⟩:=aa;cases fd
 ·simp only[ex,cc,Bool.true_or,↓reduceIte] at hst
  refine(xw)<|(zV)<|(aB (zi hlt hlenb)) ?_;refine pw hlt ((x+d.within,true)) zH (⟨by show 0<=x+d.within;omega,hst.symm⟩)
 simp only[ex,e5,cc,e4] at hst;cases g1:decide (x+d.within<a)
 ·simp only[g1,c2,↓reduceIte] at hst
  refine(aB g1)<|(zN)<|(aB (zi hlt hlenb)) ?_;refine pw hlt ((a,true)) zH (⟨hall.1,hst.symm⟩)
 ·simp only[g1,↓reduceIte] at hst
  refine(aB g1)<|(cK)<|(aB (zi hlt hlenb)) ?_;refine pw hlt ((x+d.within,true)) zH (⟨by show 0<=x+d.within;omega,hst.symm⟩)
def qv(c:List aM):Nat->List br->List ak->List ak×Int×Int
 | _,[],s=>(s,-1,0)
 | i,e::r,s=>if (aR c s e).2=0 then qv c (i+1) r (aR c s e).1 else ([],(i:Int),(aR c s e).2)
def K6{c:List aM}{dmg:bu}:∀(l:List br) (i:Nat) (s:List ak),(qv c i l s).1=(Kn false c dmg l s).1/\(qv c i l s).2.2=(Kn false c dmg l s).2
 | [],_,_=>⟨rfl,rfl⟩
 | e::r,i,s=>by
  rw[qv,Kn];split
  ·rw[v6 ge];exact K6 r (i+1) _
  ·exact⟨rfl,rfl⟩
def Gf(lc:jI)(ok:Bool):SO:=.loop lc (cond ok .ready .done) (cond ok none (some .ret)) [(4,.ptr 1 0),(5,.ptr 2 0),(6,.ptr 3 0),(7,.ptr 4 0),(8,.ptr 5 0)]
def zb(o:Nat)(lc:jI)(ok:Bool)(h:5<o):bW o (Gf lc ok)=Gf lc ok:=by
 have h1:¬1=o:=by omega
 have h2:¬2=o:=by omega
 have h3:¬3=o:=by omega
 have h4:¬4=o:=by omega
 have h5:¬5=o:=by omega
 simp[Gf,bW,dB,aP,Ev.names,eI,h1,h2,h3,h4,h5]
def vi:Code->Option (Code×Code)
 | .seq a b=>match vi a with
  | some x=>some x
  | none=>vi b
 | .block _ c=>vi c
 | .rangeFunc _ _ a b=>some (a,b)
 | _=>none
def xz(lc:jI):Prop:=(prog.funcs[(226:Nat)]?.bind λfn=>fn.body.bind vi)=some (lc.a,lc.b)
abbrev DN(lc:jI)(ps:List ak)(k:Nat):List SO:=[Gf lc true,.cells [ao 14 ([]:List ak) ae],.cells [ab 0],.cells [ab 0],.cells [ao 14 ps ae],.cells [ab k]]
abbrev pR:Fm:=[(1000000,.ptr 0 0),(1000001,.ptr 1 0),(1000002,.ptr 2 0),(1000003,.ptr 3 0),(1000004,.ptr 4 0),(1000005,.ptr 5 0)]
def Sf:∀i,i<6->i∉([]:List Nat)->aO pR (1000000+i)=.ptr i 0:=by
 rintro(_ | _ | _ | _ | _ | _ | i) h _
 all_goals first
  | rfl
  | (exfalso;omega)
def EP(c:List aM)(ev:List br)(lc:jI)(hcd:xz lc)(hln:lc.n=30)(hlp:lc.ps=#[19,20])(hc:mI c)(hlen:ev.length<20)(hkm:∀e∈ev,lY e):
 SC prog 312 [.a (.fn (.yield lc.id) [] []),.ip [ao 14 ev au],.ip [ao 3 c ar]] (DN lc [] 0) [] (λr S'=>r=.cx []/\((qv c 0 ev []).2.2=0/\(qv c 0 ev []).2.1 = -1/\S'=DN lc (qv c 0 ev []).1 ev.length\/(qv c 0 ev []).2.2≠0/\(qv c 0 ev []).1=[]/\∃ps k,S'=[Gf lc false,.cells [ao 14 ([]:List ak) ae],.cells [ab (qv c 0 ev []).2.1],.cells [ab (qv c 0 ev []).2.2],.cells [ao 14 ps ae],.cells [ab k]])):=by
 refine SC.body (n:=33) dx func312 rfl rfl g9 (W:=pR) rfl ?_;have hk6:=λok=>zb 6 lc ok g9;have hk7:=λok=>zb 7 lc ok g9;have hk8:=λok=>zb 8 lc ok g9
 have hlen1:ev.length<=1000000:=by omega
 refine(zs) ?_;refine aE.r0 ii (by simp only[cY,bP,ao,aF,m7,m6,↓reduceIte,af,aj,ay,ad,ap,aq,aA,bD,↓hk6,ao];first | done | rfl) ?_;refine(zs) ?_;refine aE.r0 ii (by simp only[cY,bP,ao,aF,m7,m6,↓reduceIte,af,aj,ay,ad,ap,aq,aA,bD,↓hk6,ao];first | done | rfl) ?_;refine zA ((11,ab 0)::(0,.a (.fn (.yield lc.id) [] []))::(1,.ip [ao 14 ev au])::(2,.ip [ao 3 c ar])::(4,.ptr 6 0)::(9,ao 14 ev au)::(10,ab ev.length)::pR) [Gf lc true,.cells [ao 14 ([]:List ak) ae],.cells [ab 0],.cells [ab 0],.cells [ao 14 ([]:List ak) ae],.cells [ab 0],.cells [.a (.slice none 0 0 (some 0))]] zH ?_;refine aE.fg (Fg.UC (S':=[Gf lc true,.cells [ao 14 ([]:List ak) ae],.cells [ab 0],.cells [ab 0],.cells [ao 14 ([]:List ak) ae],.cells [ab 0],.cells [ao 14 ([]:List ak) ae]]) ⟨.inr ⟨by simp,.inl rfl⟩,.inr ⟨by simp,.inl rfl⟩,.inr ⟨by simp,.inl rfl⟩,.inr ⟨by simp,.inl rfl⟩,.inr ⟨by simp,.inl rfl⟩,.inr ⟨by simp,.inl rfl⟩,.inr ⟨by simp,.inr ⟨_,_,rfl,rfl,.cons (.nil _) .nil⟩⟩,trivial⟩) ?_
 (try change aE _ _ _ _ _)
 refine(zs) ?_;refine BF ev (λk (ps:List ak)=>(qv c 0 ev []=qv c k (ev.drop k) ps/\(∀p∈ps,fz p)/\ps.length<=k)) (λk ps=>(11,ab k)::(0,.a (.fn (.yield lc.id) [] []))::(1,.ip [ao 14 ev au])::(2,.ip [ao 3 c ar])::(4,.ptr 6 0)::(9,ao 14 ev au)::(10,ab ev.length)::pR) (λk ps=>DN lc ps k++[.cells [ao 14 ps ae]]) ([]) zH (by exact⟨rfl,(λp hp=>by cases hp),al _⟩) ?_;intro k ps hk hall;refine zT ev k ?_ ?_;rintro rfl;rotate_left;intro e hx hlt;rotate_left
 ·refine(zN) ?_;obtain⟨hr,_,_⟩:=hall;rw[List.drop_length] at hr;refine zA pR (DN lc ps ev.length) zH ?_;refine aE.exit ?_
  (try simp only[ea,cz,bI,bx,if_true])
  exact Lh.of (rs:=[]) rfl rfl rfl ⟨rfl,.inl (by rw[hr];exact⟨rfl,rfl,rfl⟩)⟩ (al _) Sf
 obtain⟨hr,hps,hpl⟩:=hall;rw[eZ hx] at hr;have heo:=hkm e (a6 hx);have hap:=Ay c ps e hc i4 hps heo;obtain⟨q1,q2,q3,q4⟩:=oM (c:=c) hps heo;rw[qv] at hr;obtain⟨nx,er,hne⟩:∃nx er,aR c ps e=(nx,er):=⟨_,_,rfl⟩;rw[hne] at hap q1 q2 q3 q4 hr;simp only at q1 q2 q3 q4 hr;rw[dq] at hap
 refine(fw)<|(zs) ?_;refine aE.r0 ii (by simp only[cY,bP,ao,aF,m7,m6,↓reduceIte,af,aj,ay,ad,ap,aq,aA,bD,↓hk7,hlt,aL (e:=14) (enc:=au) gc hx,dq];first | done | rfl) ?_;refine zZ ((6,.ip (eA e))::(11,ab k)::(0,.a (.fn (.yield lc.id) [] []))::(1,.ip [ao 14 ev au])::(2,.ip [ao 3 c ar])::(4,.ptr 6 0)::(9,ao 14 ev au)::(10,ab ev.length)::pR) 7 rfl (gE @ao.eq_1) ?_
 (try change aE _ _ _ _ _)
 refine(zC)<|(zK hap (hfl:=.inr zr)) ?_;refine aN.r0 ii (by simp only[cY,bP,ao,aF,m7,m6,↓reduceIte,af,aj,ay,ad,ap,aq,aA,bD,ku,↓hk7,↓hk8];first | done | rfl) ?_;refine zZ ((8,ab er)::(7,.ip [ao 14 nx ae])::(11,ab k)::(0,.a (.fn (.yield lc.id) [] []))::(1,.ip [ao 14 ev au])::(2,.ip [ao 3 c ar])::(4,.ptr 6 0)::(9,ao 14 ev au)::(10,ab ev.length)::pR) 8 rfl ⟨.inl rfl,.inr (.ptr rfl (cA.refl rfl) (a7 _)),zj⟩<|zA ((8,ab er)::(7,.ip [ao 14 nx ae])::(11,ab k)::(0,.a (.fn (.yield lc.id) [] []))::(1,.ip [ao 14 ev au])::(2,.ip [ao 3 c ar])::(4,.ptr 6 0)::(9,ao 14 ev au)::(10,ab ev.length)::pR) (DN lc ps k++[.cells [ao 14 ps ae]]) zH<|(zC)<|oA ((22,.a (.fn (.yield lc.id) [] []))::(23,.ag [ao 14 nx ae])::(24,ab er)::(8,ab er)::(7,.ip [ao 14 nx ae])::(11,ab k)::(0,.a (.fn (.yield lc.id) [] []))::(1,.ip [ao 14 ev au])::(2,.ip [ao 3 c ar])::(4,.ptr 6 0)::(9,ao 14 ev au)::(10,ab ev.length)::pR) (DN lc ps k++[.cells [ao 14 ps ae]]) zH ?_;refine aN.y (vs:=[.ag [ao 14 nx ae],ab er]) (oo:=0) ii rfl rfl ii rfl rfl rfl ii rfl (by rw[hlp];rfl) (by rw[hln];rfl) (by rw[hln];decide) (by rw[hlp,hln];rfl) λro'=>?_
 have hcd2:=hcd;unfold xz at hcd2;rw[d7] at hcd2;have hcd3:=Option.some.inj (hcd2.symm.trans ii);obtain⟨ha,hbb⟩:=Prod.mk.inj hcd3;rw[ha,hlp,hln];change aE _ _ _ ⟨(20,ab er)::(19,.ag [ao 14 nx ae])::(4,.ptr 1 0)::(5,.ptr 2 0)::(6,.ptr 3 0)::(7,.ptr 4 0)::(8,.ptr 5 0)::(20000022,.a (.fn (.yield lc.id) [] []))::(20000023,.ag [ao 14 nx ae])::(20000024,ab er)::(20000008,ab er)::(20000007,.ip [ao 14 nx ae])::(20000011,ab k)::(20000000,.a (.fn (.yield lc.id) [] []))::(20000001,.ip [ao 14 ev au])::(20000002,.ip [ao 3 c ar])::(20000004,.ptr 6 0)::(20000009,ao 14 ev au)::(20000010,ab ev.length)::[(21000000,.ptr 0 0),(21000001,.ptr 1 0),(21000002,.ptr 2 0),(21000003,.ptr 3 0),(21000004,.ptr 4 0),(21000005,.ptr 5 0)],30,[Gf lc true,.cells [ao 14 ([]:List ak) ae],.cells [ab 0],.cells [ab 0],.cells [ao 14 ps ae],.cells [ab k],.cells [ao 14 ps ae]],[]⟩ _
 refine zA ((20,ab er)::(19,.ag [ao 14 nx ae])::(4,.ptr 1 0)::(5,.ptr 2 0)::(6,.ptr 3 0)::(7,.ptr 4 0)::(8,.ptr 5 0)::(20000008,ab er)::(20000007,.ip [ao 14 nx ae])::(20000011,ab k)::(20000000,.a (.fn (.yield lc.id) [] []))::(20000001,.ip [ao 14 ev au])::(20000002,.ip [ao 3 c ar])::(20000004,.ptr 6 0)::(20000009,ao 14 ev au)::(20000010,ab ev.length)::[(21000000,.ptr 0 0),(21000001,.ptr 1 0),(21000002,.ptr 2 0),(21000003,.ptr 3 0),(21000004,.ptr 4 0),(21000005,.ptr 5 0)]) [Gf lc true,.cells [ao 14 ([]:List ak) ae],.cells [ab 0],.cells [ab 0],.cells [ao 14 ps ae],.cells [ab k],.cells [ao 14 ps ae]] zH<|(zs) ?_;refine aE.r0 ii (by simp only[cY,bP,ao,aF,m7,m6,↓reduceIte,af,aj,ay,ad,ap,aq,aA,bD,↓hk7];first | done | rfl) ?_;refine(zs) ?_;refine aE.r0 ii (by simp only[cY,bP,ao,aF,m7,m6,↓reduceIte,af,aj,ay,ad,ap,aq,aA,bD,↓hk7];first | done | rfl) ?_;refine⟨rfl,0,none,[(4,.ptr 1 0),(5,.ptr 2 0),(6,.ptr 3 0),(7,.ptr 4 0),(8,.ptr 5 0)],rfl,?_⟩
 rw[hbb];change aE _ _ _ ⟨_,30,[.loop lc .busy none [(4,.ptr 1 0),(5,.ptr 2 0),(6,.ptr 3 0),(7,.ptr 4 0),(8,.ptr 5 0)],.cells [ao 14 ([]:List ak) ae],.cells [ab 0],.cells [ab 0],.cells [ao 14 ps ae],.cells [ab k],.cells [ao 14 ps ae],.cells [ao 14 nx ae]],[]⟩ _;refine(zB) ?_;by_cases herr:er=0
 ·rw[ut herr] at hr;subst herr
  refine(CP)<|(zV)<|(aB (BM (show -9223372036854775808<=(k:Int)+1/\(k:Int)+1<=9223372036854775807 from⟨by omega,by omega⟩))) ?_;refine⟨rfl,0,.busy,none,[(4,.ptr 1 0),(5,.ptr 2 0),(6,.ptr 3 0),(7,.ptr 4 0),(8,.ptr 5 0)],rfl,?_⟩
  simp only[yB,laid,ad,bd,↓reduceIte]
  refine oA ((25,an true)::(8,ab 0)::(7,.ip [ao 14 nx ae])::(11,ab k)::(0,.a (.fn (.yield lc.id) [] []))::(1,.ip [ao 14 ev au])::(2,.ip [ao 3 c ar])::(4,.ptr 6 0)::(9,ao 14 ev au)::(10,ab ev.length)::pR) (DN lc nx (k+1)++[.cells [ao 14 ps ae]]) (cg (kY @A5.eq_1 @A4.eq_1 @yE.eq_1 @yB.eq_1 @Gf.eq_1))<|(zR)<|(lD)<|(aB (zi hlt hlen1)) ?_;refine pw hlt (nx) zH (⟨hr,q1,by omega⟩)
 rw[v6 herr] at hr
 refine(aB (wd herr))<|(zY)<|zA ((10,ab er)::(4,.ptr 1 0)::(5,.ptr 2 0)::(6,.ptr 3 0)::(7,.ptr 4 0)::(8,.ptr 5 0)::(20000008,ab er)::(20000007,.ip [ao 14 nx ae])::(20000011,ab k)::(20000000,.a (.fn (.yield lc.id) [] []))::(20000001,.ip [ao 14 ev au])::(20000002,.ip [ao 3 c ar])::(20000004,.ptr 6 0)::(20000009,ao 14 ev au)::(20000010,ab ev.length)::[(21000000,.ptr 0 0),(21000001,.ptr 1 0),(21000002,.ptr 2 0),(21000003,.ptr 3 0),(21000004,.ptr 4 0),(21000005,.ptr 5 0)]) [.loop lc .busy none [(4,.ptr 1 0),(5,.ptr 2 0),(6,.ptr 3 0),(7,.ptr 4 0),(8,.ptr 5 0)],.cells [ao 14 ([]:List ak) ae],.cells [ab 0],.cells [ab 0],.cells [ao 14 ps ae],.cells [ab k],.cells [ao 14 ps ae]] zH ?_;refine aE.fg (Fg.UC (S':=[.loop lc .busy none [(4,.ptr 1 0),(5,.ptr 2 0),(6,.ptr 3 0),(7,.ptr 4 0),(8,.ptr 5 0)],.cells [.any],.cells [.any],.cells [ab 0],.cells [ao 14 ps ae],.cells [ab k],.cells [ao 14 ps ae]]) ⟨.inr ⟨by simp,.inl rfl⟩,.inr ⟨by simp,.inr ⟨_,_,rfl,rfl,.cons (.any _) .nil⟩⟩,.inr ⟨by simp,.inr ⟨_,_,rfl,rfl,.cons (.any _) .nil⟩⟩,.inr ⟨by simp,.inl rfl⟩,.inr ⟨by simp,.inl rfl⟩,.inr ⟨by simp,.inl rfl⟩,.inr ⟨by simp,.inl rfl⟩,trivial⟩) ?_
 (try change aE _ _ _ _ _)
 (repeat refine aE.seq ?_)
 have hv0:∀(i:Nat) (v:SV),vo (λ_=>False) i v=.any:=λi v=>ns λh=>h;have hv5:∀(i:Nat),i<5->∀v:SV,vo (λj=>j<5) i v=v:=λi h v=>cI h;refine aE.Aq 5 8 (λL=>⟨(23,vo L 0 (.ag [bH]))::(24,vo L 1 (ab k))::(25,vo L 2 (ab er))::(10,ab er)::(4,.ptr 1 0)::(5,.ptr 2 0)::(6,.ptr 3 0)::(7,.ptr 4 0)::(8,.ptr 5 0)::(20000008,ab er)::(20000007,.ip [ao 14 nx ae])::(20000011,ab k)::(20000000,.a (.fn (.yield lc.id) [] []))::(20000001,.ip [ao 14 ev au])::(20000002,.ip [ao 3 c ar])::(20000004,.ptr 6 0)::(20000009,ao 14 ev au)::(20000010,ab ev.length)::[(21000000,.ptr 0 0),(21000001,.ptr 1 0),(21000002,.ptr 2 0),(21000003,.ptr 3 0),(21000004,.ptr 4 0),(21000005,.ptr 5 0)],30,[.loop lc .busy none [(4,.ptr 1 0),(5,.ptr 2 0),(6,.ptr 3 0),(7,.ptr 4 0),(8,.ptr 5 0)],.cells [vo L 3 bH],.cells [vo L 4 (ab k)],.cells [ab 0],.cells [ao 14 ps ae],.cells [ab k],.cells [ao 14 ps ae]],[]⟩) rfl zW ii g9 zW (cg hv0) (λL=>rfl) ?_ ?_
 ·rintro L i o him hC hr
  rcases i with _ | _ | _ | _ | _ | i
  rotate_right
  ·exact un him i4
  ·cases hr.jF;refine(zR) ?_;exact(cg @bB)
  ·cases hr.jF;refine(zR) ?_;exact(cg @bB)
  ·cases hr.jF;refine(zR) ?_;exact(cg @bB)
  ·cases hr.jF;have d0:L 0:=hr.dep ⟨0,.data⟩ ge rfl;refine(cM (iT d0)) ?_;exact(cg (bm @bB (iT d0)))
  ·cases hr.jF;have d1:L 1:=hr.dep ⟨1,.data⟩ ge rfl;refine(cM (iT d1)) ?_;exact(cg (bm @bB (iT d1)))
 change aN _ _ _ _ _ _
 refine oA ((25,ab er)::(6,.ptr 3 0)::(4,.ptr 1 0)::(5,.ptr 2 0)::(7,.ptr 4 0)::(8,.ptr 5 0)::(20000008,ab er)::(20000007,.ip [ao 14 nx ae])::(20000011,ab k)::(20000000,.a (.fn (.yield lc.id) [] []))::(20000001,.ip [ao 14 ev au])::(20000002,.ip [ao 3 c ar])::(20000004,.ptr 6 0)::(20000009,ao 14 ev au)::(20000010,ab ev.length)::[(21000000,.ptr 0 0),(21000001,.ptr 1 0),(21000002,.ptr 2 0),(21000003,.ptr 3 0),(21000004,.ptr 4 0),(21000005,.ptr 5 0)]) [.loop lc .busy none [(4,.ptr 1 0),(5,.ptr 2 0),(6,.ptr 3 0),(7,.ptr 4 0),(8,.ptr 5 0)],.cells [bH],.cells [ab k],.cells [ab 0],.cells [ao 14 ps ae],.cells [ab k],.cells [ao 14 ps ae]] (cg (cJ (hv5 2 g9) (hv5 3 g9) (hv5 4 g9)))<|(zR) ?_;refine aE.ret ?_
 (try simp only[ea,cz,bI,bx])
 refine⟨trivial,0,.busy,none,[(4,.ptr 1 0),(5,.ptr 2 0),(6,.ptr 3 0),(7,.ptr 4 0),(8,.ptr 5 0)],rfl,?_⟩;simp only[yB,laid,ad,bd,↓reduceIte]
 refine oA ((25,an false)::(8,ab er)::(7,.ip [ao 14 nx ae])::(11,ab k)::(0,.a (.fn (.yield lc.id) [] []))::(1,.ip [ao 14 ev au])::(2,.ip [ao 3 c ar])::(4,.ptr 6 0)::(9,ao 14 ev au)::(10,ab ev.length)::pR) [Gf lc false,.cells [bH],.cells [ab k],.cells [ab er],.cells [ao 14 ps ae],.cells [ab k],.cells [ao 14 ps ae]] (cg (kY @A5.eq_1 @A4.eq_1 @yE.eq_1 @yB.eq_1 @Gf.eq_1))<|(zR)<|(zY)<|zA pR [Gf lc false,.cells [bH],.cells [ab k],.cells [ab er],.cells [ao 14 ps ae],.cells [ab k]] zH ?_;refine aE.fg (Fg.UC (S':=[Gf lc false,.cells [ao 14 ([]:List ak) ae],.cells [ab k],.cells [ab er],.cells [ao 14 ps ae],.cells [ab k]]) ⟨.inr ⟨by simp,.inl rfl⟩,.inr ⟨by simp,.inr ⟨_,_,rfl,rfl,.cons (.nil _) .nil⟩⟩,.inr ⟨by simp,.inl rfl⟩,.inr ⟨by simp,.inl rfl⟩,.inr ⟨by simp,.inl rfl⟩,.inr ⟨by simp,.inl rfl⟩,trivial⟩) ?_;refine aE.ret ?_
 (try simp only[ea,cz,bI,bx])
 exact Lh.of (rs:=[]) rfl rfl rfl ⟨rfl,.inr (by rw[hr];exact⟨herr,rfl,ps,k,rfl⟩)⟩ (al _) Sf
def ES(c:List aM)(ev:List br):PC prog 281 [.ag [ao 3 c ar],ao 14 ev au] (·=.fn 312 [] [.ip [ao 14 ev au],.ip [ao 3 c ar]]):=by
 refine pB 6 Tryz.func281 ?_;refine(zV) ?_;exact zZ [(2,.ip [ao 3 c ar]),(3,.ptr 1 0)] 0 rfl (gE @ao.eq_1)<|zZ [(2,.ip [ao 3 c ar]),(3,.ip [ao 14 ev au])] 1 rfl (gE @ao.eq_1)<|zA [(2,.ip [ao 3 c ar]),(3,.ip [ao 14 ev au])] [] zH<|(zV)<|zo [.tmp 4]
def qZ(r:List ak×Int×Int):SV:=.cx [.ag [ao 14 r.1 ae],ab r.2.1,ab r.2.2]
def Bj(c:List aM)(l:List br):List ak×Int×Int:=if oJ c=true then qv c 0 (eL l) [] else ([],-1,1)
def P8.Vb{P:Program}{fn:Func}{Q:SV->Prop}{e:Ex}{st:ez}(h:BJ P fn Q e st):P8 P fn Q e st:=by
 obtain⟨he,hd,h⟩:=h;refine⟨he,?_⟩;rw[hd];exact h
def MT(c:List aM)(l:List br)(hc:mI c)(hlen:l.length<20)(hl:∀e∈l,lY e):PC prog 226 [.ag [ao 3 c ar],ao 14 l au] (·=qZ (Bj c l)):=by
 refine PC.tn (n:=30) dx d7 rfl rfl g9 ?_;refine(zV) ?_;refine zZ [(1,ao 14 l au),(2,.ip [ao 3 c ar]),(4,.ptr 1 0),(5,.ptr 2 0),(6,.ptr 3 0)] 0 rfl (gE @ao.eq_1)<|zA [(1,ao 14 l au),(2,.ip [ao 3 c ar]),(4,.ptr 1 0),(5,.ptr 2 0),(6,.ptr 3 0)] [.gone,.cells [.a (.slice none 0 0 (some 0))],.cells [ab 0],.cells [ab 0]] zH ?_;refine aE.fg (Fg.rn (f':=[(1,ao 14 l au),(2,.ip [ao 3 c ar]),(4,.ptr 0 0),(5,.ptr 1 0),(6,.ptr 2 0)]) (n:=30) (S':=[.cells [.a (.slice none 0 0 (some 0))],.cells [ab 0],.cells [ab 0]]) [1,2,3] g9 rfl (by (simp only[sL,gA,bP,ao,bl (aC bU l)])<;>(repeat' apply cn)<;>first | trivial | exact .inl rfl | exact .inr rfl | exact .inr trivial | exact .inl trivial) (by (simp only[cY,gA,bP,ao,bl (aC bU l)])<;>(repeat' apply cn)<;>first | rfl | trivial)) ?_
 (try change aE _ _ _ _ _)
 unfold Bj;cases h1:oJ c
 ·have hv:=og c hc;rw[h1] at hv
  refine(zC)<|(zK hv)<|(zR)<|(cK) ?_;refine aE.ret ?_
  (try simp only[ea,cz,bI,bx])
  refine P8.Vb ?_;exact zO [.cell 4 46,.cell 5 3,.cell 6 47] (r:=.cx [.ag [.sl 0 14 []],ab (-1),ab 1]) (hw:=zv)
 have hv:=og c hc;rw[h1] at hv
 refine(zC)<|(zK hv)<|(zR)<|(lD)<|(zV)<|zA [(1,ao 14 l au),(2,.ip [ao 3 c ar]),(4,.ptr 0 0),(5,.ptr 1 0),(6,.ptr 2 0),(7,.ptr 3 0),(8,.ptr 4 0)] [.cells [.a (.slice none 0 0 (some 0))],.cells [ab 0],.cells [ab 0],.cells [.a (.slice none 0 0 (some 0))],.cells [ab 0]] zH ?_;refine aE.fg (Fg.UC (S':=[.cells [ao 14 ([]:List ak) ae],.cells [ab 0],.cells [ab 0],.cells [ao 14 ([]:List ak) ae],.cells [ab 0]]) ⟨.inr ⟨by simp,.inr ⟨_,_,rfl,rfl,.cons (.nil _) .nil⟩⟩,.inr ⟨by simp,.inl rfl⟩,.inr ⟨by simp,.inl rfl⟩,.inr ⟨by simp,.inr ⟨_,_,rfl,rfl,.cons (.nil _) .nil⟩⟩,.inr ⟨by simp,.inl rfl⟩,trivial⟩) ?_
 (try change aE _ _ _ _ _)
 have hkm:∀e∈eL l,lY e:=λe he=>hl e ((vq _ _).mem_iff.1 he)
 have hsl:(eL l).length<20:=by rw[eL,yU];exact hlen
 have hso:=wR l hlen;generalize eL l=ev at hkm hsl hso ⊢;rw[ut rfl];have hv0:∀(i:Nat) (v:SV),vo (λ_=>False) i v=.any:=λi v=>ns λh=>h;have hv3:∀(i:Nat),i<3->∀v:SV,vo (λj=>j<3) i v=v:=λi h v=>cI h
 (repeat refine aE.seq ?_)
 refine aE.Aq 3 6 (λL=>⟨(15,vo L 0 (.ag [ao 3 c ar]))::(16,vo L 1 (ao 14 l au))::(17,vo L 2 (ao 14 ev au))::(1,ao 14 l au)::(2,.ip [ao 3 c ar])::[(4,.ptr 0 0),(5,.ptr 1 0),(6,.ptr 2 0),(7,.ptr 3 0),(8,.ptr 4 0)],30,[.cells [ao 14 ([]:List ak) ae],.cells [ab 0],.cells [ab 0],.cells [ao 14 ([]:List ak) ae],.cells [ab 0]],[]⟩) rfl zW ii g9 zW (cg hv0) (λL=>rfl) ?_ ?_
 ·rintro L i o him hC hr
  rcases i with _ | _ | _ | i
  rotate_right
  ·exact un him i4
  ·cases hr.jF;refine(zR) ?_;exact(cg @bB)
  ·cases hr.jF;refine(zR) ?_;exact(cg @bB)
  ·cases hr.jF;have d1:L 1:=hr.dep ⟨1,.data⟩ ge rfl;refine(zK hso (hc:=yc (iT d1)) (hfl:=.inr zr)) ?_;refine .nil ?_;exact(cg (bm @bB (iT d1)))
 change aN _ _ _ _ _ _
 refine oA ((15,.ag [ao 3 c ar])::(17,ao 14 ev au)::[(4,.ptr 0 0),(5,.ptr 1 0),(6,.ptr 2 0),(7,.ptr 3 0),(8,.ptr 4 0)]) [.cells [ao 14 ([]:List ak) ae],.cells [ab 0],.cells [ab 0],.cells [ao 14 ([]:List ak) ae],.cells [ab 0]] (cg (bm (hv3 0 g9) (hv3 2 g9)))<|(zK (ES c ev) (hfl:=.inr zr)) ?_;refine .nil ?_
 change aE _ _ _ _ _;refine zA ((18,.fn 312 [] [.ip [ao 14 ev au],.ip [ao 3 c ar]])::[(4,.ptr 0 0),(5,.ptr 1 0),(6,.ptr 2 0),(7,.ptr 3 0),(8,.ptr 4 0)]) [.cells [ao 14 ([]:List ak) ae],.cells [ab 0],.cells [ab 0],.cells [ao 14 ([]:List ak) ae],.cells [ab 0]] zH ?_;refine aE.block ?_;refine aE.ud (f1:=[(4,.ptr 0 0),(5,.ptr 1 0),(6,.ptr 2 0),(7,.ptr 3 0),(8,.ptr 4 0)]) dx ii func312 ii UY ?_;rintro N lc hid hn hps ha hb
 have hcd:xz lc:=by
  unfold xz;rw[d7,ha,hb];rfl
 have hsc:=EP c ev lc hcd hn hps hc hsl hkm;generalize qv c 0 ev []=q at hsc ⊢;refine⟨[6,0,1,2,3,4],_,_,_,_,hsc,?_,rfl,by decide,?_,?_⟩
 ·simp only[gA,bP,cY,ao,dB,aP,↓reduceIte,af,aj,bd,hid,List.map,ey,cons_append,nil_append]
  try rfl
 ·rintro(_ | _ | _ | _ | _ | _ | i) so h
  ·cases h;exact⟨6,rfl,by rfl⟩
  ·cases h;exact⟨0,rfl,by rfl⟩
  ·cases h;exact⟨1,rfl,by rfl⟩
  ·cases h;exact⟨2,rfl,by rfl⟩
  ·cases h;exact⟨3,rfl,by rfl⟩
  ·cases h;exact⟨4,rfl,by rfl⟩
  ·cases h
 rintro r S' ⟨rfl,hS'⟩;have hbq:∀(B:Nat) (l:List ak),dD B (ao 14 l ae)=true:=λB l=>gq rfl
 rcases hS' with⟨hq0,hq1,rfl⟩ | ⟨hq0,hq1,ps,k,rfl⟩
 ·refine⟨by simp only[DN,Gf,CE,gA,bP,ao,aj,ap,decide_true,↓hbq];first | done | rfl,6,.ready,none,[(4,.ptr 0 0),(5,.ptr 1 0),(6,.ptr 2 0),(7,.ptr 3 0),(8,.ptr 4 0)],by rfl,by decide,by rfl,?_⟩
  have hS2:(dP (eJ (eJ [.cells [ao 14 ([]:List ak) ae],.cells [ab 0],.cells [ab 0],.cells [ao 14 ([]:List ak) ae],.cells [ab 0]] (SO.mA N)) (SO.loop lc .ready none [(4,.ptr 0 0),(5,.ptr 1 0),(6,.ptr 2 0),(7,.ptr 3 0),(8,.ptr 4 0)])) [6,0,1,2,3,4] [] (DN lc q.1 ev.length)).set 6 .gone=[.cells [ao 14 ([]:List ak) ae],.cells [ab 0],.cells [ab 0],.cells [ao 14 q.1 ae],.cells [ab ev.length],.mA N,.gone]:=by
   have hrq:∀(r:Nat->Nat),mG r (q.1.flatMap ae)=q.1.flatMap ae:=λr=>bl (aC dr q.1);simp only[dP,eJ,dh,de,gg,gK,i7,i5,List.map,ac,li];rfl
  rw[hS2];change aE _ _ _ ⟨[(4,.ptr 0 0),(5,.ptr 1 0),(6,.ptr 2 0),(7,.ptr 3 0),(8,.ptr 4 0)],30,_,[{ fn:=none,Fe:=N,args:=[],cap:=[] }]⟩ _;refine(zV) ?_;refine aE.ret ?_
  (try simp only[ea,cz,bI,bx])
  exact⟨rfl,[(4,.ptr 0 0),(5,.ptr 1 0),(6,.ptr 2 0)],⟨rfl,rfl,rfl,trivial⟩,rfl,.inl ⟨rfl,5,rfl,[.ag [ao 14 q.1 ae],ab (-1),ab 0],.cx [.ag [ao 14 q.1 ae],ab (-1),ab 0],by rfl,.cx (.cons (.ag zr) (.cons (.a _) (.cons (.a _) .nil))),by rw[qZ,hq0,hq1]⟩⟩
 ·have hS2:(dP (eJ (eJ [.cells [ao 14 ([]:List ak) ae],.cells [ab 0],.cells [ab 0],.cells [ao 14 ([]:List ak) ae],.cells [ab 0]] (SO.mA N)) (SO.loop lc .ready none [(4,.ptr 0 0),(5,.ptr 1 0),(6,.ptr 2 0),(7,.ptr 3 0),(8,.ptr 4 0)])) [6,0,1,2,3,4] [] [Gf lc false,.cells [ao 14 ([]:List ak) ae],.cells [ab q.2.1],.cells [ab q.2.2],.cells [ao 14 ps ae],.cells [ab k]]).set 6 .gone=[.cells [ao 14 ([]:List ak) ae],.cells [ab q.2.1],.cells [ab q.2.2],.cells [ao 14 ps ae],.cells [ab k],.mA N,.gone]:=by
   simp only[dP,eJ,dh,de,gg,gK,i7,i5,List.map,ac,li];rfl
  refine⟨by simp only[Gf,CE,gA,bP,ao,aj,ap,decide_true,↓hbq];first | done | rfl,6,.done,some .ret,[(4,.ptr 0 0),(5,.ptr 1 0),(6,.ptr 2 0),(7,.ptr 3 0),(8,.ptr 4 0)],by rfl,by decide,by rfl,?_⟩;rw[hS2];change aE _ _ _ ⟨[(4,.ptr 0 0),(5,.ptr 1 0),(6,.ptr 2 0),(7,.ptr 3 0),(8,.ptr 4 0)],30,_,[{ fn:=none,Fe:=N,args:=[],cap:=[] }]⟩ _;refine aE.ret ?_
  (try simp only[ea,cz,bI,bx])
  exact⟨rfl,[(4,.ptr 0 0),(5,.ptr 1 0),(6,.ptr 2 0)],⟨rfl,rfl,rfl,trivial⟩,rfl,.inl ⟨rfl,5,rfl,[.ag [ao 14 ([]:List ak) ae],ab q.2.1,ab q.2.2],.cx [.ag [ao 14 ([]:List ak) ae],ab q.2.1,ab q.2.2],by rfl,.cx (.cons (.ag zr) (.cons (.a _) (.cons (.a _) .nil))),by rw[qZ,hq1]⟩⟩
def wI(e:br)(day:Int):PC prog 227 [.ag (au e),.ip [ab day]] (·=an (eV day e)):=by
 refine pB 8 Tryz.func227 ?_;exact(aB @dq)<|(zV)<|zo [.tmp 3]
def mL(a b:Nat)(L:Nat->Prop):Nat->Prop:=λ_=>L a/\¬L b
variable{L:Nat->Prop}
def pV{a b i:Nat}(ha:a≠i)(hb:b≠i):mL a b (λj=>L j\/j=i)=mL a b L:=by
 funext x;unfold mL;simp[ha,hb]
def Sc{a b:Nat}(h1:¬L b)(hab:b≠a):mL a b (λj=>L j\/j=a) 0:=⟨.inr rfl,λh=>h.elim h1 hab⟩
def OD{a b:Nat}:¬mL a b (λj=>L j\/j=b) 0:=λh=>h.2 (.inr rfl)
def QW{a b:Nat}(h:¬L a):¬mL a b L 0:=λk=>h k.1
def PD(c:List aM)(l:List br)(day:Int)(hc:mI c)(hlen:l.length<20)(hl:∀e∈l,lY e):PC prog 145 [.ag [ao 3 c ar],ao 14 l au,ab day] (·=qZ (Bj c (dY (eV day) l))):=by
 refine pB 18 Tryz.func145 ?_;refine(zV) ?_;refine zZ [(1,ao 14 l au),(3,.ip [ao 3 c ar]),(5,.ptr 1 0),(6,.ptr 2 0)] 0 rfl (gE @ao.eq_1) ?_;refine aE.fg (Fg.rn (f':=(5,.ptr 0 0)::(6,.ptr 1 0)::(1,ao 14 l au)::[(3,.ip [ao 3 c ar])]) (n:=18) (S':=[.cells [ab day],.cells [.a (.slice none 0 0 (some 0))]]) [1,2] g9 rfl (by (simp only[sL,gA,bP,ao,bl (aC bU l)])<;>(repeat' apply cn)<;>first | trivial | exact .inl rfl | exact .inr rfl | exact .inr trivial | exact .inl trivial) (by (simp only[cY,gA,bP,ao,bl (aC bU l)])<;>(repeat' apply cn)<;>first | rfl | trivial)) ?_
 (try change aE _ _ _ _ _)
 obtain⟨kp,hkp⟩:∃kp,kp=dY (eV day) l:=⟨_,rfl⟩
 have hkl:kp.length<=l.length:=by rw[hkp];exact FZ _ _
 have hkm:∀e∈kp,lY e:=λe he=>hl e (by rw[hkp] at he;exact(mem_filter.1 he).1);have hrun:=MT c kp hc i4 hkm;rw[<-hkp];generalize Bj c kp=q at hrun ⊢;have hv0:∀(i:Nat) (v:SV),vo (λ_=>False) i v=.any:=λi v=>ns λh=>h;have hv9:∀(i:Nat),i<9->∀v:SV,vo (λj=>j<9) i v=v:=λi h v=>cI h;have hnq:∀(o:Nat) (L:Nat->Prop) (i:Nat),Ev.names o (vo L i (qZ q))=false:=λo L i=>c7 o L i _ rfl
 (repeat refine aE.seq ?_)
 by_cases hne:l=[]
 ·subst hne;have hk0:kp=[]:=hkp;subst hk0;refine aE.Aq 9 14 (λL=>⟨(9,vo L 0 (.ag [ao 3 c ar]))::(10,vo L 1 (ao 14 ([]:List br) au))::(11,vo L 2 (.e0 14))::(12,vo L 3 (.fn 227 [] [.ptr 0 0]))::(13,vo L 4 (.e0 14))::(14,vo L 5 (qZ q))::(15,vo L 6 (.ag [ao 14 q.1 ae]))::(16,vo L 7 (ab q.2.1))::(17,vo L 8 (ab q.2.2))::(5,.ptr 0 0)::(6,.ptr 1 0)::(1,ao 14 ([]:List br) au)::[(3,.ip [ao 3 c ar])],18,[.cells [ab day],.cells [.a (.slice none 0 0 (some 0))]],[]⟩) rfl zW ii g9 zW (cg hv0) (λL=>rfl) ?_ ?_
  ·rintro L i o him hC hr
   rcases i with _ | _ | _ | _ | _ | _ | _ | _ | _ | i
   rotate_right
   ·exact un him i4
   ·cases hr.jF;refine(zR) ?_;exact(cg @bB)
   ·cases hr.jF;refine(zR) ?_;exact(cg @bB)
   ·cases hr.jF;have d1:L 1:=hr.dep ⟨1,.data⟩ ge rfl;refine zS [] @c7 su ?_ (hc:=yc (iT d1));refine .nil ?_;exact(cg (bm @bB (iT d1)))
   ·cases hr.jF;refine(zR) ?_;exact(cg @bB)
   ·cases hr.jF;have d2:L 2:=hr.dep ⟨2,.data⟩ ge rfl;have d3:L 3:=hr.dep ⟨3,.data⟩ ge rfl;refine zS [0] @c7 (AB 227 [ab day] rfl (eV day) (λx=>wI x day)) ?_ (hc:=yc (bm (iT d2) (iT d3)));refine .nil ?_;exact(cg (cJ @bB (iT d2) (iT d3)))
   ·cases hr.jF;have d0:L 0:=hr.dep ⟨0,.data⟩ ge rfl;have d4:L 4:=hr.dep ⟨4,.data⟩ ge rfl;refine(zK hrun (hc:=yc (bm (iT d0) (iT d4))) (hwk:=.cons (.ag zr) (.cons (.T5 14) .nil)) (hfl:=.inr (.cons (.ag zr) (.cons (.T5 14) .nil)))) ?_;refine .nil ?_;exact(cg (cJ @bB (iT d0) (iT d4)))
   ·cases hr.jF;have d5:L 5:=hr.dep ⟨5,.data⟩ ge rfl;refine(cM (bm (iT d5) @qZ.eq_1)) ?_;exact(cg (bm @bB (iT d5)))
   ·cases hr.jF;have d5:L 5:=hr.dep ⟨5,.data⟩ ge rfl;refine(cM (bm (iT d5) @qZ.eq_1)) ?_;exact(cg (bm @bB (iT d5)))
   ·cases hr.jF;have d5:L 5:=hr.dep ⟨5,.data⟩ ge rfl;refine(cM (bm (iT d5) @qZ.eq_1)) ?_;exact(cg (bm @bB (iT d5)))
  ·change aN _ _ _ _ _ _
   refine oA [(15,.ag [ao 14 q.1 ae]),(16,ab q.2.1),(17,ab q.2.2),(6,.ptr 1 0)] [.cells [ab day],.cells [.a (.slice none 0 0 (some 0))]] (cg (cJ (hv9 6 g9) (hv9 7 g9) (hv9 8 g9)))<|(zR) ?_
   change aN _ _ _ _ _ _;refine(zR) ?_;change aN _ _ _ _ _ _
   refine(zR)<|(zE) ?_;exact zO [.cell 6 46,.tmp 7,.tmp 8] (r:=.cx [.ag [ao 14 q.1 ae],ab q.2.1,ab q.2.2]) (hw:=zv)
 ·have hne0:¬l.length=0:=λh=>hne (t8 h);have hrq:∀(r:Nat->Nat) (q:List br),mG r (q.flatMap au)=q.flatMap au:=λr q=>bl (aC bU q);have hbq:∀(B:Nat) (q:List br),iy B (q.flatMap au)=true:=λB q=>bM (aC bU q);have hkq:=bp bU;have hcl:=sv l i4 hne;have hdel:=AD 227 [ab day] rfl (eV day) (λx=>wI x day) l i4;rw[<-hkp] at hdel;obtain⟨w,hw⟩:∃w,w=kp++List.replicate (l.length-kp.length) br.zero:=⟨_,rfl⟩
  have hqt:(w.flatMap au).take (kp.length*14)=kp.flatMap au:=by
   rw[gX cL,hw,List.take_append_of_le_length (al _),ck (al _)]
  have hql:(w.flatMap au).length=l.length*14:=by rw[aU cL,hw,li,List.length_replicate];congr 1;omega
  rw[<-hw] at hdel;have hm0:∀v:SV,vo (mL 2 4 λ_=>False) 0 v=.any:=λv=>ns λh=>h.1;have hw0:∀o:SO,wo (mL 2 4 λ_=>False) 0 o=.gone:=λo=>gp λh=>h.1;have hw9:∀o:SO,wo (mL 2 4 λj=>j<9) 0 o=.gone:=λo=>gp λh=>h.2 g9;refine aE.Aq 9 14 (λL=>⟨(9,vo L 0 (.ag [ao 3 c ar]))::(10,vo L 1 (ao 14 l au))::(11,vo (mL 2 4 L) 0 (.buf 3 l.length 14 none))::(12,vo L 3 (.fn 227 [] [.ptr 0 0]))::(13,vo L 4 (ao 14 kp au))::(14,vo L 5 (qZ q))::(15,vo L 6 (.ag [ao 14 q.1 ae]))::(16,vo L 7 (ab q.2.1))::(17,vo L 8 (ab q.2.2))::(5,.ptr 0 0)::(6,.ptr 1 0)::(1,ao 14 l au)::[(3,.ip [ao 3 c ar])],18,[.cells [ab day],.cells [.a (.slice none 0 0 (some 0))],.gone,wo (mL 2 4 L) 0 (.cells (l.flatMap au))],[]⟩) rfl zW ii g9 zW (cg (cJ hv0 hm0 hw0)) (λL=>rfl) ?_ ?_
  ·rintro L i o him hC hr
   rcases i with _ | _ | _ | _ | _ | _ | _ | _ | _ | i
   rotate_right
   ·exact un him i4
   ·cases hr.jF;refine(zR) ?_;exact(cg (bm @bB (pV (a:=2) (b:=4) (i:=0) (L:=L) g9 g9)))
   ·cases hr.jF;refine(zR) ?_;exact(cg (bm @bB (pV (a:=2) (b:=4) (i:=1) (L:=L) g9 g9)))
   ·cases hr.jF;have d1:L 1:=hr.dep ⟨1,.data⟩ ge rfl;have n2:¬L 2:=hr.new;have n4:¬L 4:=λh=>n2 (hC 4 _ rfl h ⟨2,.data⟩ ge rfl);refine oA ((9,vo L 0 (.ag [ao 3 c ar]))::(10,ao 14 l au)::(12,vo L 3 (.fn 227 [] [.ptr 0 0]))::(13,vo L 4 (ao 14 kp au))::(14,vo L 5 (qZ q))::(15,vo L 6 (.ag [ao 14 q.1 ae]))::(16,vo L 7 (ab q.2.1))::(17,vo L 8 (ab q.2.2))::(5,.ptr 0 0)::(6,.ptr 1 0)::(1,ao 14 l au)::[(3,.ip [ao 3 c ar])]) [.cells [ab day],.cells [.a (.slice none 0 0 (some 0))]] (cg (bm (iT d1) (VZ (QW (b:=4) n2)))) ?_;refine zS [] (fk @c7 hrq hbq hkq) hcl ?_;refine .nil ?_;exact(cg (kY hnq @bB (iT d1) (iT (show mL 2 4 (λj=>L j\/j=0+1+1) 0 from Sc n4 g9)) (V3 (show mL 2 4 (λj=>L j\/j=0+1+1) 0 from Sc n4 g9))))
   ·cases hr.jF;refine(zR) ?_;exact(cg (bm @bB (pV (a:=2) (b:=4) (i:=3) (L:=L) g9 g9)))
   ·cases hr.jF;have d2:L 2:=hr.dep ⟨2,.data⟩ ge rfl;have d3:L 3:=hr.dep ⟨3,.data⟩ ge rfl;have n4:¬L 4:=hr.new;refine oA ((9,vo L 0 (.ag [ao 3 c ar]))::(10,vo L 1 (ao 14 l au))::(11,.buf 3 l.length 14 none)::(12,.fn 227 [] [.ptr 0 0])::(14,vo L 5 (qZ q))::(15,vo L 6 (.ag [ao 14 q.1 ae]))::(16,vo L 7 (ab q.2.1))::(17,vo L 8 (ab q.2.2))::(5,.ptr 0 0)::(6,.ptr 1 0)::(1,ao 14 l au)::[(3,.ip [ao 3 c ar])]) [.cells [ab day],.cells [.a (.slice none 0 0 (some 0))],.gone,.cells (l.flatMap au)] (cg (cJ (iT d3) (iT (show mL 2 4 L 0 from⟨d2,n4⟩)) (V3 (show mL 2 4 L 0 from⟨d2,n4⟩)))) ?_;refine zS [3,0] (kY @c7 @Af hrq hbq hkq) hdel ?_;refine .nil ?_;refine Fg.trans (Fg.freeze (f':=(13,ao 14 kp au)::(9,vo L 0 (.ag [ao 3 c ar]))::(10,vo L 1 (ao 14 l au))::(12,.fn 227 [] [.ptr 0 0])::(14,vo L 5 (qZ q))::(15,vo L 6 (.ag [ao 14 q.1 ae]))::(16,vo L 7 (ab q.2.1))::(17,vo L 8 (ab q.2.2))::(5,.ptr 0 0)::(6,.ptr 1 0)::(1,ao 14 l au)::[(3,.ip [ao 3 c ar])]) 3 rfl gt ⟨.inr (.buf rfl (by rw[hqt];exact cA.refl (aC bU _)) (by rw[hql];exact Nat.mul_le_mul_right 14 hkl)),zj⟩) ?_;exact(cg (fk @bB (iT d3) (Wr (show ¬mL 2 4 (λj=>L j\/j=0+1+1+1+1) 0 from OD)) (VZ (show ¬mL 2 4 (λj=>L j\/j=0+1+1+1+1) 0 from OD))))
   ·cases hr.jF;have d0:L 0:=hr.dep ⟨0,.data⟩ ge rfl;have d4:L 4:=hr.dep ⟨4,.data⟩ ge rfl;refine(zK hrun (hc:=yc (bm (iT d0) (iT d4))) (hfl:=.inr zr)) ?_;refine .nil ?_;exact(cg (fk @bB (pV (a:=2) (b:=4) (i:=5) (L:=L) g9 g9) (iT d0) (iT d4)))
   ·cases hr.jF;have d5:L 5:=hr.dep ⟨5,.data⟩ ge rfl;refine(cM (bm (iT d5) @qZ.eq_1)) ?_;exact(cg (cJ @bB (pV (a:=2) (b:=4) (i:=6) (L:=L) g9 g9) (iT d5)))
   ·cases hr.jF;have d5:L 5:=hr.dep ⟨5,.data⟩ ge rfl;refine(cM (bm (iT d5) @qZ.eq_1)) ?_;exact(cg (cJ @bB (pV (a:=2) (b:=4) (i:=7) (L:=L) g9 g9) (iT d5)))
   ·cases hr.jF;have d5:L 5:=hr.dep ⟨5,.data⟩ ge rfl;refine(cM (bm (iT d5) @qZ.eq_1)) ?_;exact(cg (cJ @bB (pV (a:=2) (b:=4) (i:=8) (L:=L) g9 g9) (iT d5)))
  ·change aN _ _ _ _ _ _
   refine oA [(15,.ag [ao 14 q.1 ae]),(16,ab q.2.1),(17,ab q.2.2),(6,.ptr 1 0)] [.cells [ab day],.cells [.a (.slice none 0 0 (some 0))]] (cg (fk hw9 (hv9 6 g9) (hv9 7 g9) (hv9 8 g9)))<|(zR) ?_
   change aN _ _ _ _ _ _;refine(zR) ?_;change aN _ _ _ _ _ _
   refine(zR)<|(zE) ?_;exact zO [.cell 6 46,.tmp 7,.tmp 8] (r:=.cx [.ag [ao 14 q.1 ae],ab q.2.1,ab q.2.2]) (hw:=zv)
structure kW where
 part:List Nat
 fN:List Nat
 day:Int
 deriving DecidableEq
def kW.av(d:kW):List AV:=[.str d.part,.str d.fN,.int .i64 d.day]
def oq(d:kW):AV:=.agg d.av
def kW.eq(a b:kW):fY eG a.av b.av=decide (a=b):=by
 obtain⟨a1,a2,a3⟩:=a;obtain⟨b1,b2,b3⟩:=b;simp only[kW.av,fY,eG,A0,sI,lH,cc,dc,kW.mk.injEq,em]
def ML:Keys prog 137 oq:=
 vw (ks:=[.s,.s,.i .i64]) zW (by simp only[aF,m6]) (λ_=>rfl) kW.eq λ_=>rfl
def Hs{S:List SO}{o:Nat}{l:List (kW×Bool)}(a b:List Nat)(n:Int)(u:Bool)(hS:S[o]?=some (bG oq an l)):iF prog S 134 (.map o) (.ag [ah a,ah b,ab n]) (.a (.bool u))=some (S.set o (bG oq an (cC (⟨a,b,n⟩:kW) u l))):=
 IW (uv:=an) (k:=(⟨a,b,n⟩:kW)) (kt:=137) (et:=4) (by simp only[aF]) ML hS rfl u
def oT{n:Nat}{l:List (kW×Bool)}:bW n (bG oq an l)=bG oq an l:=mD λ_=>ml _
def jk(l:List br)(part:List Nat)(day:Int)(kind:List Nat)(m:List (kW×Bool))(d:ei):List (kW×Bool):=
 if sh d=true/\d.kind=kind/\(lU d l part day).2=true then cC ⟨part,d.name,(lU d l part day).1⟩ true m else m
def sm(ds:List ei)(c:List aM)(l:List br)(part:List Nat)(day:Int):List (kW×Bool):=
 match bE (PZ c l day).1 part with
 | none=>[]
 | some p=>if (PZ c l day).2≠0\/p.bq=true then [] else ds.foldl (jk l part day p.kind) []
def KL{K U:Type}[DecidableEq K]{k:K}{v:U}:∀{m:List (K×U)} {e:K×U},e∈cC k v m->e=(k,v)\/e∈m
 | [],e,h=>by unfold cC at h;exact .inl (t6 h)
 | a::m,e,h=>by
  unfold cC at h;split at h
  ·rcases t7 h with rfl | h
   ·exact .inl rfl
   ·exact .inr (am _ h)
  ·rcases t7 h with rfl | h
   ·exact .inr ba
   ·exact(KL h).imp id (am _)
def ub{K U:Type}[DecidableEq K]{k:K}{v:U}:∀{m:List (K×U)},(m.map (·.1)).Nodup->((cC k v m).map (·.1)).Nodup
 | [],_=>by unfold cC;simp
 | e::m,h=>by
  rw[bv,bi] at h;unfold cC;split
  ·rename_i hk;rw[bv,bi,hk];exact h
  ·rename_i hk;rw[bv,bi];refine⟨λhm=>?_,ub h.2⟩;obtain⟨x,hx,e1⟩:=mem_map.1 hm
   rcases KL hx with rfl | hx
   ·exact hk e1
   ·exact h.1 (e1▸a8 hx)
def Pa{K U:Type}[DecidableEq K]{k x:K}{v:U}{m:List (K×U)}:x∈(cC k v m).map (·.1)↔x=k\/x∈m.map (·.1):=by
 rw[<-lu,<-lu,qN,cb,wp,or_comm]
def KJ(ds:List ei)(c:List aM)(l:List br)(part:List Nat)(day:Int):((sm ds c l part day).map (·.1)).Nodup/\∀x,x∈(sm ds c l part day).map (·.1)↔x.part=part/\(x.fN,x.day)∈tZ ds c l part day:=by
 unfold sm tZ
 cases bE (PZ c l day).1 part with
 | none=>exact⟨aS,λx=>by simp⟩
 | some p=>
  simp only;split
  ·exact⟨aS,λx=>by simp⟩
  ·have key:∀(ds:List ei) (m:List (kW×Bool)),(m.map (·.1)).Nodup->((ds.foldl (jk l part day p.kind) m).map (·.1)).Nodup/\∀x,x∈(ds.foldl (jk l part day p.kind) m).map (·.1)↔x∈m.map (·.1)\/(x.part=part/\(x.fN,x.day)∈ds.filterMap λd=>if sh d=true/\d.kind=p.kind/\(lU d l part day).2=true then some (d.name,(lU d l part day).1) else none):=by
    intro ds
    induction ds with
    | nil=>exact λm h=>⟨h,λx=>by simp⟩
    | cons d ds ih=>
     intro m h;rw[b4,ct];rw[show jk l part day p.kind m d=if sh d=true/\d.kind=p.kind/\(lU d l part day).2=true then cC ⟨part,d.name,(lU d l part day).1⟩ true m else m from rfl];by_cases hd:sh d=true/\d.kind=p.kind/\(lU d l part day).2=true
     ·rw[ut hd,ut hd];obtain⟨i1,i2⟩:=ih _ (ub (k:=(⟨part,d.name,(lU d l part day).1⟩:kW)) (v:=true) h);refine⟨i1,λx=>?_⟩;rw[i2,Pa,bb];obtain⟨x1,x2,x3⟩:=x;simp only[kW.mk.injEq,m8];constructor
      ·rintro((⟨rfl,rfl,rfl⟩ | h) | ⟨h1,h2⟩)
       ·exact .inr ⟨rfl,.inl ⟨rfl,rfl⟩⟩
       ·exact .inl h
       ·exact .inr ⟨h1,.inr h2⟩
      ·rintro(h | ⟨h1,⟨rfl,rfl⟩ | h2⟩)
       ·exact .inl (.inr h)
       ·exact .inl (.inl ⟨h1,rfl,rfl⟩)
       ·exact .inr ⟨h1,h2⟩
     ·rw[v6 hd,v6 hd];exact ih m h
   obtain⟨k1,k2⟩:=key ds [] aS;exact⟨k1,λx=>by rw[k2];simp⟩
def Dd:∀(s acc:List (List Nat)),acc.Pairwise (λa b=>fF a b=true)->s.Pairwise (λa b=>xh a b=true)->(∀a∈acc,∀b∈s,xh a b=true)->
 (s.foldl (λacc x=>if acc.getLast?=some x then acc else acc++[x]) acc).Pairwise (λa b=>fF a b=true)/\∀x,x∈s.foldl (λacc x=>if acc.getLast?=some x then acc else acc++[x]) acc↔x∈acc\/x∈s
 | [],acc,h,_,_=>⟨h,λx=>by simp⟩
 | y::s,acc,h,hs,ha=>by
  rw[ch] at hs;rw[b4];by_cases hl:acc.getLast?=some y
  ·rw[ut hl];have hy:y∈acc:=List.mem_of_getLast? hl;obtain⟨i1,i2⟩:=Dd s acc h hs.2 λa h1 b h2=>ha a h1 b (am _ h2);refine⟨i1,λx=>?_⟩;rw[i2,bb];constructor
   ·rintro(h | h)
    ·exact .inl h
    ·exact .inr (.inr h)
   ·rintro(h | rfl | h)
    ·exact .inl h
    ·exact .inl hy
    ·exact .inr h
  ·rw[v6 hl]
   have hlt:∀a∈acc,fF a y=true:=by
    intro a hm;have h1:=ha a hm y ba
    rcases jV a y with k | k | k
    ·exact k
    ·exfalso;subst k
     obtain⟨z,hz⟩:∃z,acc.getLast?=some z:=by
      cases hq:acc.getLast? with
      | none=>rw[List.getLast?_eq_none_iff] at hq;subst hq;cases hm
      | some z=>exact⟨z,rfl⟩
     obtain⟨pre,rfl⟩:=List.getLast?_eq_some_iff.1 hz
     rcases mem_append.1 hm with hm | hm
     ·have h2:=(List.pairwise_append.1 h).2.2 a hm z (rx rfl);have h3:=ha z (List.mem_append_right _ (rx rfl)) a ba;unfold xh at h3;rw[h2] at h3;cases h3
     ·rw[t6 hm] at hl;exact hl hz
    ·unfold xh at h1;rw[k] at h1;cases h1
   obtain⟨i1,i2⟩:=Dd s (acc++[y]) (List.pairwise_append.2 ⟨h,ci _ _,λa h1 b h2=>by rw[t6 h2];exact hlt a h1⟩) hs.2 (by
    intro a h1 b h2
    rcases mem_append.1 h1 with h1 | h1
    ·exact ha a h1 b (am _ h2)
    ·rw[t6 h1];exact hs.1 b h2)
   refine⟨i1,λx=>?_⟩;rw[i2,mem_append,c6,bb,or_assoc]
def Tt(l:List (List Nat)):(Mx l).Pairwise (λa b=>fF a b=true)/\∀x,x∈Mx l↔x∈l:=by
 obtain⟨h1,h2⟩:=Dd (eh l) [] .nil (GY l) λa h=>by cases h
 refine⟨h1,λx=>?_⟩;show x∈sg (eh l)↔_;unfold sg;rw[h2];simp[(qo l).mem_iff]
def Py{K l:List (List Nat)}(hn:K.Nodup)(hm:∀x,x∈K↔x∈l):eh K=Mx l:=by
 obtain⟨h1,h2⟩:=Tt l
 have hd:(Mx l).Nodup:=h1.imp λh e=>by rw[e,c9] at h;cases h
 refine(Ap ((ca hd hn).2 λx=>by rw[h2,hm]) ?_).symm;unfold rm
 exact h1.imp λ{a b} h=>by
  cases k:fF b a with
  | false=>rfl
  | true=>have:=fG h k;rw[c9] at this;cases this
variable{c:List aM}
def Og{e:br}(h:(aR c ps e).2=0):dL e=true:=by
 unfold aR at h;cases h1:Proofs.dM c ps
 ·rw[h1,v6 g9] at h;exact un h g9
 cases h2:dL e
 ·rw[h1,ut rfl,h2,v6 g9] at h;exact un h g9
 ·rfl
def FP{u:Bool}{c:List aM}{dmg:bu}:∀(l:List br) (s:List ak),(Kn u c dmg l s).2=0->∀e∈l,dL e=true
 | [],_,_,_,h=>by cases h
 | e::r,s,h,x,hx=>by
  rw[Kn] at h;by_cases h0:(aR c s e).2=0
  ·rw[ut h0] at h
   rcases t7 hx with rfl | hx
   ·exact Og h0
   ·exact FP r _ h x hx
  ·rw[v6 h0] at h;exact un h h0
variable{day:Int}
def Qg(h:(PZ c l day).2=0):∀e∈l,e.day<=day->0<=e.day/\e.day<=40000:=by
 intro e he hd;unfold PZ at h;split at h
 ·have:=FP _ _ h e ((vq _ _).mem_iff.2 (mem_filter.2 ⟨he,by unfold eV;simp;omega⟩));unfold dL at this;simp only[be,Bool.not_eq_true',wn] at this;obtain⟨_,h1,h2,_⟩:=this;omega
 ·exact un h g9
def SL(c:List aM)(l:List br)(day:Int):(Bj c (dY (eV day) l)).1=(PZ c l day).1/\(Bj c (dY (eV day) l)).2.2=(PZ c l day).2:=by
 unfold Bj PZ;split
 ·exact K6 _ _ _
 ·exact⟨rfl,rfl⟩
def sd(a b:aw):Bool:=decide (a.kind<b.kind)||(decide (a.kind=b.kind)&&(fF a.part b.part||(decide (a.part=b.part)&&fF a.name b.name)))
def B3(x:aw):List aw->List aw
 | []=>[x]
 | y::l=>if sd y x=true then y::B3 x l else x::y::l
def gm:List aw->List aw
 | []=>[]
 | x::l=>B3 x (gm l)
def qU(l:List aw):List aw:=(l.foldl (λm f=>cC f true m) ([]:List (aw×Bool))).map (·.1)
def jl(c:List aM)(dmg:bu)(b:dS)(l:List br)(vehicle:List Nat)(day:Int):List aw:=
 match bE (runN c dmg l day).1 vehicle with
 | none=>[⟨4,vehicle,[]⟩]
 | some v=>if (runN c dmg l day).2.2≠0\/v.bq=true\/((dF c v.kind).getD aM.zero).vehicle=false then [⟨4,vehicle,[]⟩]
  else gm (qU (qK c b l (runN c dmg l day).1 vehicle day v))
def sM(x:aw):∀l,(B3 x l).Perm (x::l)
 | []=>.refl _
 | y::l=>by
  rw[B3];split
  ·exact((sM x l).cons y).trans (.swap x y l)
  ·exact .refl _
def fV:∀l,(gm l).Perm l
 | []=>.refl _
 | x::l=>(sM x _).trans ((fV l).cons x)
def xQ(a b:aw):sd a b=true\/a=b\/sd b a=true:=by
 obtain⟨k,p,n⟩:=a;obtain⟨k2,p2,n2⟩:=b;unfold sd;simp only[cb,be,wp,aw.mk.injEq]
 rcases c4 k k2 with h | h | h
 ·exact .inl (.inl h)
 ·rcases jV p p2 with h1 | h1 | h1
  ·exact .inl (.inr ⟨h,.inl h1⟩)
  ·rcases jV n n2 with h2 | h2 | h2
   ·exact .inl (.inr ⟨h,.inr ⟨h1,h2⟩⟩)
   ·exact .inr (.inl ⟨h,h1,h2⟩)
   ·exact .inr (.inr (.inr ⟨h.symm,.inr ⟨h1.symm,h2⟩⟩))
  ·exact .inr (.inr (.inr ⟨h.symm,.inl h1⟩))
 ·exact .inr (.inr (.inl h))
def kI{a b c:aw}(h1:sd a b=true)(h2:sd b c=true):sd a c=true:=by
 unfold sd at *;simp only[cb,be,wp] at *
 rcases h1 with h1 | ⟨e1,h1⟩<;>rcases h2 with h2 | ⟨e2,h2⟩
 ·exact .inl i4
 ·exact .inl i4
 ·exact .inl i4
 ·refine .inr ⟨e1.trans e2,?_⟩
  rcases h1 with h1 | ⟨f1,h1⟩<;>rcases h2 with h2 | ⟨f2,h2⟩
  ·exact .inl (fG h1 h2)
  ·exact .inl (f2▸h1)
  ·exact .inl (f1▸h2)
  ·exact .inr ⟨f1.trans f2,fG h1 h2⟩
def tS(a:aw):sd a a=false:=by
 unfold sd;rw[c9,c9];simp
def FV{x:aw}:∀{l:List aw},l.Pairwise (λa b=>sd a b=true)->x∉l->(B3 x l).Pairwise λa b=>sd a b=true
 | [],_,_=>.cons (λ_ h=>by cases h) .nil
 | y::l,h,hx=>by
  have h0:=h;rw[ch] at h;rw[bb,not_or] at hx;rw[B3];split
  ·rename_i c;refine .cons (λz hz=>?_) (FV h.2 hx.2)
   rcases t7 ((sM x l).mem_iff.1 hz) with rfl | hz
   ·exact c
   ·exact h.1 z hz
  ·rename_i c
   have hxy:sd x y=true:=by
    rcases xQ x y with k | k | k
    ·exact k
    ·exact un k hx.1
    ·exact un k c
   refine .cons (λz hz=>?_) h0
   rcases t7 hz with rfl | hz
   ·exact hxy
   ·exact kI hxy (h.1 z hz)
def rU:∀{l:List aw},l.Nodup->(gm l).Pairwise λa b=>sd a b=true
 | [],_=>.nil
 | x::l,h=>by
  rw[bi] at h;exact FV (rU h.2) λk=>h.1 ((fV l).mem_iff.1 k)
def GC{k:aw}{v:Bool}:∀{m:List (aw×Bool)} {e:aw×Bool},e∈cC k v m->e=(k,v)\/e∈m
 | [],e,h=>by unfold cC at h;exact .inl (t6 h)
 | a::m,e,h=>by
  unfold cC at h;split at h
  ·rcases t7 h with rfl | h
   ·exact .inl rfl
   ·exact .inr (am _ h)
  ·rcases t7 h with rfl | h
   ·exact .inr ba
   ·exact(GC h).imp id (am _)
def Cr{k:aw}{v:Bool}:∀{m:List (aw×Bool)},(m.map (·.1)).Nodup->((cC k v m).map (·.1)).Nodup
 | [],_=>by unfold cC;simp
 | e::m,h=>by
  rw[bv,bi] at h;unfold cC;split
  ·rename_i hk;rw[bv,bi,hk];exact h
  ·rename_i hk;rw[bv,bi];refine⟨λhm=>?_,Cr h.2⟩;obtain⟨x,hx,e1⟩:=mem_map.1 hm
   rcases GC hx with rfl | hx
   ·exact hk e1
   ·exact h.1 (e1▸a8 hx)
def DO:∀(l:List aw) (m:List (aw×Bool)),(m.map (·.1)).Nodup->((l.foldl (λm f=>cC f true m) m).map (·.1)).Nodup/\∀f,f∈(l.foldl (λm f=>cC f true m) m).map (·.1)↔f∈m.map (·.1)\/f∈l
 | [],m,h=>⟨h,λf=>by simp⟩
 | x::l,m,h=>by
  obtain⟨i1,i2⟩:=DO l (cC x true m) (Cr h);refine⟨i1,λf=>?_⟩;rw[b4,i2,<-lu,<-lu,qN,cb,wp,bb];constructor
  ·rintro((h | h) | h)
   ·exact .inr (.inl h)
   ·exact .inl h
   ·exact .inr (.inr h)
  ·rintro(h | h | h)
   ·exact .inl (.inr h)
   ·exact .inl (.inl h)
   ·exact .inr h
def Mh{l:List aw}{f:aw}:f∈qU l↔f∈l:=by
 have:=(DO l [] aS).2 f;unfold qU;rw[this];simp
def Gw(l:List aw):(qU l).Nodup:=(DO l [] aS).1
def ou:∀(n:Nat) {r:iU} {ls:List (List Nat)},∀x∈du n r ls,x∈r.map (·.1)
 | 0,_,_,x,h=>by cases h
 | n+1,r,ls,x,h=>by
  rw[du] at h;split at h
  ·cases h
  ·rcases mem_append.1 h with h | h
   ·obtain⟨e,he,rfl⟩:=mem_map.1 h;exact a8 (mem_filter.1 he).1
   ·obtain⟨e,he,rfl⟩:=mem_map.1 (ou n x h);exact a8 (mem_filter.1 he).1
variable{part:List Nat}
def wc(ho:eu (ps.map ak.name)=true){x:List Nat}(h:x∈eb ps part):(da ps x).name=x:=by
 unfold eb at h;split at h
 ·have h:=ou _ x ((qo _).mem_iff.1 h);rw[Cx ho] at h;unfold F0 at h;rw[List.map_map] at h;obtain⟨p,hp,rfl⟩:=mem_map.1 h;have hf:=jv ho (mem_filter.1 hp).1;show(da ps p.name).name=p.name;unfold da;rw[hf];rfl
 ·cases h
def H3{b:dS}{p:ak}{f:aw}(h:f∈nz c b l ps day p):f.part=p.name/\f.kind≠4:=by
 unfold nz at h
 rcases mem_append.1 h with h | h
 ·obtain⟨_,_,rfl⟩:=mem_map.1 h;exact⟨rfl,show(1:Int)≠4 by decide⟩
 rcases mem_append.1 h with h | h
 ·obtain⟨_,_,rfl⟩:=mem_map.1 h;exact⟨rfl,show(5:Int)≠4 by decide⟩
 rcases mem_append.1 h with h | h
 ·obtain⟨_,_,rfl⟩:=mem_map.1 h;exact⟨rfl,show(3:Int)≠4 by decide⟩
 split at h
 ·cases h
 ·rw[t6 h];exact⟨rfl,show(2:Int)≠4 by decide⟩
def gx(x:aw):List aw->List aw
 | []=>[x]
 | y::l=>if sd y x=true then y::gx x l else if y=x then y::l else x::y::l
abbrev CW(l:List aw):Prop:=l.Pairwise λa b=>sd a b=true
def vJ{x f:aw}:∀{l:List aw},f∈gx x l↔f=x\/f∈l
 | []=>by rw[gx,c6];simp
 | y::l=>by
  rw[gx];split
  ·rw[bb,vJ,bb,or_left_comm]
  ·split
   ·rename_i h;subst h;rw[bb,<-or_assoc,or_self]
   ·rw[bb]
def Cs{x:aw}:∀{l:List aw},CW l->CW (gx x l)
 | [],_=>by rw[gx];exact ci _ _
 | y::l,h=>by
  have h0:=h;rw[CW,ch] at h;rw[gx];split
  ·rename_i c;refine .cons (λz hz=>?_) (Cs h.2)
   rcases vJ.1 hz with rfl | hz
   ·exact c
   ·exact h.1 z hz
  ·rename_i c;split
   ·exact h0
   ·rename_i e
    have hxy:sd x y=true:=by
     rcases xQ y x with k | k | k
     ·exact un k c
     ·exact un k e
     ·exact k
    refine .cons (λz hz=>?_) h0
    rcases t7 hz with rfl | hz
    ·exact hxy
    ·exact kI hxy (h.1 z hz)
def gJ(l xs:List aw):List aw:=xs.foldl (λl x=>gx x l) l
def GH:∀(xs l:List aw),CW l->CW (gJ l xs)/\∀f,f∈gJ l xs↔f∈l\/f∈xs
 | [],l,h=>⟨h,λf=>by unfold gJ;simp⟩
 | x::xs,l,h=>by
  obtain⟨h1,h2⟩:=GH xs _ (Cs (x:=x) h);refine⟨h1,λf=>?_⟩;rw[show gJ l (x::xs)=gJ (gx x l) xs from rfl,h2,vJ,bb,or_comm (a:=f=x),or_assoc]
def MA{a b:List aw}(ha:CW a)(hb:CW b)(h:∀f,f∈a↔f∈b):a=b:=by
 have nd:∀{l:List aw},CW l->l.Nodup:=λh=>h.imp λh e=>by rw[e,tS] at h;cases h
 exact Perm.eq_of_pairwise (λa b _ _ h3 h4=>by have:=kI h3 h4;rw[tS] at this;cases this) ha hb ((ca (nd ha) (nd hb)).2 h)
def I7(l:List aw):CW (gm (qU l))/\∀f,f∈gm (qU l)↔f∈l:=
 ⟨rU (Gw _),λf=>by rw[(fV _).mem_iff,Mh]⟩
def Oq(b:dS)(vehicle:List Nat):List aw:=(b.holds.filter λh=>decide (h.vehicle=vehicle)&&se h).map λh=>⟨6,vehicle,h.id⟩
def Lc(c:List aM)(b:dS)(l:List br)(ps:List ak)(vehicle part:List Nat)(day:Int):List aw:=
 nz c b l ps day (da ps part)++if part=vehicle then Oq b vehicle else []
def Aa{n:List Nat}{p:ak}(h:bE ps n=some p):da ps n=p:=by unfold da;rw[h];rfl
def GK{b:dS}{vehicle:List Nat}{v:ak}(ho:eu (ps.map ak.name)=true)(hv:bE ps vehicle=some v)(hp:part=vehicle\/part∈eb ps vehicle):
 (gm (qU (qK c b l ps vehicle day v))).filter (λf=>decide (f.part=part))=gJ [] (Lc c b l ps vehicle part day):=by
 obtain⟨s1,s2⟩:=I7 (qK c b l ps vehicle day v);obtain⟨p1,p2⟩:=GH (Lc c b l ps vehicle part day) [] .nil;have hvn:=(gy hv).2;refine MA (s1.filter _) p1 λf=>?_;rw[mem_filter,s2,p2,wp];unfold qK Lc;rw[mem_append,mem_append,mem_append,List.mem_flatMap];constructor
 ·rintro⟨h | ⟨n,hn,h⟩ | h,e⟩
  ·have h1:=(H3 h).1
   have e2:part=vehicle:=by rw[<-e,h1,hvn]
   rw[e2,Aa hv];exact .inr (.inl h)
  ·have h1:=(H3 h).1;rw[wc ho hn,e] at h1;rw[h1];exact .inr (.inl h)
  ·have h1:f.part=vehicle:=by
    obtain⟨_,_,rfl⟩:=mem_map.1 h;rfl
   have e2:part=vehicle:=by rw[<-e,h1]
   rw[ut e2];exact .inr (.inr h)
 ·rintro(h | h | h)
  ·cases h
  ·have h1:=(H3 h).1
   rcases hp with rfl | hp
   ·rw[Aa hv] at h h1;exact⟨.inl h,by rw[h1,hvn]⟩
   ·exact⟨.inr (.inl ⟨part,hp,h⟩),by rw[h1,wc ho hp]⟩
  ·split at h
   ·rename_i e;refine⟨.inr (.inr h),?_⟩;obtain⟨_,_,rfl⟩:=mem_map.1 h;exact e.symm
   ·cases h
def Qv(h:gN):Nat:=(h.members.filter λm=>h.back.contains m).length
def Qw(h:gN):decide (Qv h<h.members.length)=se h:=by
 have key:∀(q:Int->Bool) (l:List Int),decide ((l.filter q).length<l.length)=l.any λm=>!q m:=by
  intro q l
  induction l with
  | nil=>rfl
  | cons x l ih=>
   rw[e6,<-ih,b7];have:=bt q l;cases q x
   ·simp;omega
   ·simp
 exact key _ _
def GX{c:List aM}:∀(l:List br) (i:Nat) (s:List ak),(∀p∈s,fz p)->(∀e∈l,lY e)->(qv c i l s).1.length<=s.length+l.length
 | [],_,s,_,_=>al _
 | e::r,i,s,hp,he=>by
  obtain⟨q1,q2,_,_⟩:=oM (c:=c) (ps:=s) (e:=e) hp (he e ba);rw[qv];split
  ·have:=GX (c:=c) r (i+1) (aR c s e).1 q1 λx hx=>he x (am _ hx);rw[i7];omega
  ·exact a7 _
def Pt(hlen:l.length<20)(hl:∀e∈l,lY e):(Bj c (dY (eV day) l)).1.length<=20:=by
 unfold Bj;split
 ·refine bc (GX _ _ _ (λp h=>by cases h) λe he=>hl e (xZ he)) ?_;have:=xY l (eV day);simp only[i5];omega
 ·exact a7 _
def H4{d:ei}(h:∀e∈l,e.day<=day->0<=e.day/\e.day<=40000):∀n∈rp d l part day,0<=n/\n<=40000:=by
 intro n hn;obtain⟨e,he,rfl⟩:=mem_map.1 hn;obtain⟨h1,h2⟩:=mem_filter.1 he;rw[be] at h2;unfold Mo at h2;rw[be] at h2;exact h e h1 (ww h2.1.2)
def JE(ds:List ei)(c:List aM)(l:List br)(part:List Nat)(day:Int)(hd:∀d∈ds,CQ d)(hdl:ds.length<=1000000)(hc:mI c)(hlen:l.length<20)(hl:∀e∈l,lY e):PC prog 63 [ao 5 ds bf,.ag [ao 3 c ar],ao 14 l au,ah part,ab day] (·=mc oq an (sm ds c l part day)):=by
 have hat:=PD c l day hc hlen hl;obtain⟨ha1,ha2⟩:=SL c l day;have had:=Qg (c:=c) (l:=l) (day:=day);have hpl:=Pt (c:=c) (day:=day) hlen hl;obtain⟨R,hR⟩:∃R,R=sm ds c l part day:=⟨_,rfl⟩;rw[<-hR];unfold sm at hR;generalize Bj c (dY (eV day) l)=q at hat ha1 ha2 hpl;rw[<-ha2] at had;rw[<-ha1,<-ha2] at hR;clear ha1 ha2;have hf:=gn q.1 part i4
 refine pB 85 Tryz.func63 ?_;refine(zV) ?_;refine zZ ((0,ao 5 ds bf)::(6,.ip [ao 3 c ar])::(2,ao 14 l au)::(3,ah part)::[(4,ab day)]) 0 rfl (gE @ao.eq_1)<|zA ((0,ao 5 ds bf)::(6,.ip [ao 3 c ar])::(2,ao 14 l au)::(3,ah part)::[(4,ab day)]) [] zH<|(jC)<|(zK hat (hfl:=.inr zr))<|(cM @qZ.eq_1)<|zA ((14,ab q.2.2)::(12,.ptr 1 0)::(11,.map 0)::(0,ao 5 ds bf)::(2,ao 14 l au)::(3,ah part)::[(4,ab day)]) [bG oq an [],.cells [ao 14 q.1 ae]] (cg (show SO.map [] [] none=bG oq an [] from rfl)) ?_;refine zZ ((14,ab q.2.2)::(12,.ip [ao 14 q.1 ae])::(11,.map 0)::(0,ao 5 ds bf)::(2,ao 14 l au)::(3,ah part)::[(4,ab day)]) 1 rfl ⟨.inl rfl,.inr (.ptr rfl (cA.refl rfl) (a7 _)),zj⟩<|zA ((14,ab q.2.2)::(12,.ip [ao 14 q.1 ae])::(11,.map 0)::(0,ao 5 ds bf)::(2,ao 14 l au)::(3,ah part)::[(4,ab day)]) [bG oq an []] zH<|(zC) ?_;refine aN.k ii rfl rfl ii rfl zc (hf) (zw) (.inr (cA.refl (by cases bE q.1 part<;>rfl))) ?_
 cases hm:bE q.1 part with
 | none=>
  rw[hm] at hR;simp only at hR;refine(cM (fk @jf.eq_1 @ae.eq_1 @ak.zero.eq_1 @oT)) ?_;cases g0:decide (q.2.2=0)
  ·exact(aB g0)<|(cK)<|zo [.tmp 10] (r:=mc oq an []) (hw:=mu (λ_=>rfl) rfl) (hq:=by rw[hR])
  ·exact(aB g0)<|(cK)<|zo [.tmp 10] (r:=mc oq an []) (hw:=mu (λ_=>rfl) rfl) (hq:=by rw[hR])
 | some p=>
  rw[hm] at hR;simp only at hR;refine(cM (cJ @jf.eq_1 @ae.eq_1 @oT)) ?_;cases g0:decide (q.2.2=0)
  ·exact(aB g0)<|(cK)<|zo [.tmp 10] (r:=mc oq an []) (hw:=mu (λ_=>rfl) rfl) (hq:=by rw[hR,ut (.inl (wt g0))])
  cases g1:p.bq;rotate_left
  ·exact(aB (bm g0 g1))<|(cK)<|zo [.tmp 10] (r:=mc oq an []) (hw:=mu (λ_=>rfl) rfl) (hq:=by rw[hR,ut (.inr g1)])
  have hq0:=ww g0;have hbd:=λd=>H4 (d:=d) (part:=part) (had hq0);rw[v6 (by rw[g1];simp[hq0])] at hR
  refine(aB (bm g0 g1))<|(lD)<|zA ((50,ab 0)::(49,ab ds.length)::(48,ao 5 ds bf)::(15,.ptr 1 0)::(11,.map 0)::(2,ao 14 l au)::(3,ah part)::[(4,ab day)]) [bG oq an [],.cells [ah p.name,ah p.kind,ah p.aT,ah p.slot,ab p.made,ab p.since,an false,ao 2 p.props aI,ab p.l1,ab p.l2,ab p.l3,ab p.l4,ab p.l5,ab p.l6]] zH ?_;refine zZ ((50,ab 0)::(49,ab ds.length)::(48,ao 5 ds bf)::(15,.ip [ah p.name,ah p.kind,ah p.aT,ah p.slot,ab p.made,ab p.since,an false,ao 2 p.props aI,ab p.l1,ab p.l2,ab p.l3,ab p.l4,ab p.l5,ab p.l6])::(11,.map 0)::(2,ao 14 l au)::(3,ah part)::[(4,ab day)]) 1 rfl ⟨.inl rfl,.inl rfl,.inl rfl,.inr (.ptr rfl (cA.refl rfl) (a7 _)),zj⟩<|zA ((50,ab 0)::(49,ab ds.length)::(48,ao 5 ds bf)::(15,.ip [ah p.name,ah p.kind,ah p.aT,ah p.slot,ab p.made,ab p.since,an false,ao 2 p.props aI,ab p.l1,ab p.l2,ab p.l3,ab p.l4,ab p.l5,ab p.l6])::(11,.map 0)::(2,ao 14 l au)::(3,ah part)::[(4,ab day)]) [bG oq an []] zH<|(zs) ?_;refine BF ds (λk (mm:List (kW×Bool))=>mm=(ds.take k).foldl (jk l part day p.kind) []) (λk mm=>(50,ab k)::(49,ab ds.length)::(48,ao 5 ds bf)::(15,.ip [ah p.name,ah p.kind,ah p.aT,ah p.slot,ab p.made,ab p.since,an false,ao 2 p.props aI,ab p.l1,ab p.l2,ab p.l3,ab p.l4,ab p.l5,ab p.l6])::(11,.map 0)::(2,ao 14 l au)::(3,ah part)::[(4,ab day)]) (λk mm=>[bG oq an mm]) ([]) zH ii ?_;intro k mm hk hall;refine zT ds k ?_ ?_;rintro rfl;rotate_left;intro d hx hlt;rotate_left
  ·refine(fo) ?_;rw[bk] at hall
   exact(zV)<|zo [.tmp 10] (r:=mc oq an mm) (hw:=mu (λ_=>rfl) rfl) (hq:=by rw[hR,<-hall])
  have hsn:(ds.take (k+1)).foldl (jk l part day p.kind) []=jk l part day p.kind mm d:=by rw[cq hx,bw,<-hall];rfl
  have hdo:=hd d (a6 hx);have hdv:=Jg d hdo;rw[show jk l part day p.kind mm d=if sh d=true/\d.kind=p.kind/\(lU d l part day).2=true then cC ⟨part,d.name,(lU d l part day).1⟩ true mm else mm from rfl] at hsn
  refine(fw)<|(aB (fk hlt (aL (e:=5) (enc:=bf) gc hx) @bf.eq_1 @oT))<|(aB @oT)<|(zC)<|(zK hdv) ?_
  cases g2:sh d
  ·rw[v6 (by rw[g2];simp)] at hsn
   refine(zR)<|(zY) ?_;refine aE.exit ?_
   (try change aE _ _ _ _ _)
   refine(aB (zi hlt hdl)) ?_;refine pw hlt (mm) zH hsn.symm
  cases g3:decide (d.kind=p.kind)
  ·rw[v6 (by rintro⟨_,h,_⟩;exact wt g3 h)] at hsn
   refine(cM (bm g3 @oT))<|(zY) ?_;refine aE.exit ?_
   (try change aE _ _ _ _ _)
   refine(aB (zi hlt hdl)) ?_;refine pw hlt (mm) zH hsn.symm
  refine(cM (bm g3 @oT))<|(zN) ?_
  have hw:0<=d.within/\d.within<=40000:=by
   unfold sh at g2;simp only[be,wp] at g2;exact g2.2.2.2.2.2
  have hlast:=Jy d l part day i4 hw (hbd d);generalize lU d l part day=la at hlast hsn
  refine(zC)<|(zK hlast)<|(zR) ?_
  cases g4:la.2
  ·rw[v6 (by rw[g4];simp)] at hsn
   refine(aB g4)<|(zN)<|(aB (zi hlt hdl)) ?_;refine pw hlt (mm) zH hsn.symm
  ·rw[ut ⟨g2,ww g3,g4⟩] at hsn
   refine(aB g4)<|(zY)<|(zs) ?_;refine aE.r0 ii (by simp only[cY,bP,ao,aF,m7,m6,↓reduceIte,af,aj,ay,ad,ap,aq,aA,bD,Hs (l:=mm)];first | done | rfl) ?_;refine(aB (zi hlt hdl)) ?_;refine pw hlt (cC ⟨part,d.name,la.1⟩ true mm) zH hsn.symm
def Jw(L:List (List Nat×Bool)):PC prog 65 [mc AV.str an L] (·=.fn 149 [] [.ip [mc AV.str an L]]):=by
 refine pB 4 Tryz.func65 ?_;refine(zV) ?_;refine zZ [(1,.ip [mc AV.str an L])] 0 rfl (gE @ao.eq_1) ?_
 (try change aE _ _ _ _ _)
 exact(zV)<|zo [.tmp 2]
def gY(lc:jI):SO:=.loop lc .ready none [(2,.ptr 1 0)]
def IC(o:Nat)(lc:jI)(h:¬1=o):bW o (gY lc)=gY lc:=by
 simp[gY,bW,dB,aP,Ev.names,h]
def tb(lc:jI):Prop:=(prog.funcs[(233:Nat)]?.bind λfn=>fn.body.bind vi)=some (lc.a,lc.b)
def Hi(L:List (List Nat×Bool))(lc:jI)(hcd:tb lc)(hln:lc.n=13)(hlp:lc.ps=#[7])(hlen:L.length<=100000)(hnd:(L.map (·.1)).Nodup):
 SC prog 149 [.a (.fn (.yield lc.id) [] []),.ip [mc AV.str an L]] [gY lc,.cells [bH],.gone] [2] (λr S'=>r=.cx []/\∃out:List (List Nat),out.Perm (L.map (·.1))/\S'=[gY lc,.cells [bY 2 1 out.length],e8 out]):=by
 refine UX 14 func149 ?_;have hk3:=IC 3 lc g9;refine(zC) ?_;refine aN.UT (ks:=L.map λe=>.str e.1) (vs:=L.map λe=>an e.2) ii rfl rfl ii rfl (by simp only[aF]) ?_;intro bs c hbs;refine aN.r0 ii (by simp only[cY,bP,ao,aF,m7,m6,↓reduceIte,af,aj,ay,ad,ap,aq,aA,bD,↓hk3];first | done | rfl) ?_
 (repeat refine aE.seq ?_)
 refine aE.block (aE.loop (λm st=>∃pos:List Nat,pos.Nodup/\(∀j∈pos,j<L.length)/\L.length-pos.length=m/\st=⟨[(0,.a (.fn (.yield lc.id) [] [])),(5,.ptr 3 0),(1000000,.ptr 0 0),(1000001,.ptr 1 0)],14,[gY lc,.cells [bY 2 1 (bj L pos).length],e8 ((bj L pos).map (·.1)),.oR (L.map λe=>.str e.1) (L.map λe=>an e.2) bs c pos],[]⟩) L.length (cg (vc @bj.eq_1 @List.filterMap_nil.{0,0} @map_nil.{0,0} @i5.{0} @jW @gw)) ⟨[],aS,λj hj=>by simp at hj,rfl,rfl⟩ (by rintro m st ⟨pos,_,_,_,rfl⟩;rfl) ?_);rintro m st ⟨pos,hpn,hpl,rfl,rfl⟩;refine aE.post ?_;refine(zC) ?_;refine aN.UR ii rfl rfl ii rfl rfl (λj hj=>by rw[ac];exact hpl j hj) ?_ ?_
 ·intro hall
  refine(zR)<|(fo) ?_;refine⟨⟨[(1000000,.ptr 0 0),(1000001,.ptr 1 0)],14,[gY lc,.cells [bY 2 1 (bj L pos).length],e8 ((bj L pos).map (·.1))],[]⟩,zH,?_⟩
  simp only[ea,cz,bI,bx,if_true];exact zP [] (hq:=by (try simp only[eC,bK]);first | done | (exact⟨trivial,(bj L pos).map (·.1),(mT hpn hpl (λj hj=>hall j (by rw[ac];exact hj))).map _,by rw[ac]⟩))
 ·intro j hj hjn;rw[ac] at hj;obtain⟨e,he⟩:∃e,L[j]?=some e:=⟨L[j],jp hj⟩;obtain⟨q1,q2,q3⟩:=qW hpn hpl hj hjn;have hsn:=lq L pos he
  refine(zR)<|(fw)<|(zC) ?_;refine aN.UL (k:=.str e.1) (v:=an e.2) ii rfl rfl ii rfl rfl (by rw[ax,he];rfl) (by rw[ax,he];rfl) ?_;refine(zR)<|(zC)<|oA [(10,.a (.fn (.yield lc.id) [] [])),(11,ah e.1),(0,.a (.fn (.yield lc.id) [] [])),(5,.ptr 3 0),(1000000,.ptr 0 0),(1000001,.ptr 1 0)] [gY lc,.cells [bY 2 1 (bj L pos).length],e8 ((bj L pos).map (·.1)),.oR (L.map λe=>.str e.1) (L.map λe=>an e.2) bs c (pos++[j])] zH ?_;refine aN.y (vs:=[ah e.1]) (oo:=0) ii rfl rfl ii rfl rfl rfl ii rfl (by rw[hlp];rfl) (by rw[hln];rfl) (by rw[hln];decide) (by rw[hlp,hln];rfl) λro'=>?_
  have hcd2:=hcd;unfold tb at hcd2;rw[d8] at hcd2;have hcd3:=Option.some.inj (hcd2.symm.trans ii);obtain⟨ha,hbb⟩:=Prod.mk.inj hcd3;rw[ha,hlp,hln];have hhl:(bj L pos).length=((bj L pos).map (·.1)).length:=(ac _).symm;rw[hhl]
  have hol:((bj L pos).map (·.1)).length<=100000:=by rw[<-hhl];exact bc (b6 _ _) i4
  generalize hout:(bj L pos).map (·.1)=out at hol;change aE _ _ _ ⟨[(7,ah e.1),(2,.ptr 1 0),(20000010,.a (.fn (.yield lc.id) [] [])),(20000011,ah e.1),(20000000,.a (.fn (.yield lc.id) [] [])),(20000005,.ptr 3 0),(21000000,.ptr 0 0),(21000001,.ptr 1 0)],13,[gY lc,.cells [bY 2 1 out.length],e8 out,.oR (L.map λe=>.str e.1) (L.map λe=>an e.2) bs c (pos++[j])],[]⟩ _;refine(zV) ?_;refine⟨rfl,0,none,[(2,.ptr 1 0)],rfl,?_⟩;rw[hbb];refine(zB) ?_;change aE _ _ _ ⟨_,13,[.loop lc .busy none [(2,.ptr 1 0)],.cells [bY 2 1 out.length],e8 out,.oR (L.map λe=>.str e.1) (L.map λe=>an e.2) bs c (pos++[j])],[]⟩ _;by_cases ho:out=[]
  ·have hE1:bY 2 1 (bj L (pos++[j])).length=.buf 2 1 1 none:=by rw[hsn,li,hhl,hout,ho];rfl
   have hE2:e8 ((bj L (pos++[j])).map (·.1))=.cells [ah e.1]:=by rw[hsn,bh,hout,ho];rfl
   rw[ho,gw,show bY 2 1 ([]:List (List Nat)).length=bH from rfl];refine(zV) ?_;refine⟨rfl,0,.busy,none,[(2,.ptr 1 0)],rfl,?_⟩;simp only[yB,laid,ad,bd,↓reduceIte]
   refine oA [(12,an true),(0,.a (.fn (.yield lc.id) [] [])),(5,.ptr 3 0),(1000000,.ptr 0 0),(1000001,.ptr 1 0)] [gY lc,.cells [.buf 2 1 1 none],.cells [ah e.1],.oR (L.map λe=>.str e.1) (L.map λe=>an e.2) bs c (pos++[j])] (Fg.rn (f':=[(12,an true),(0,.a (.fn (.yield lc.id) [] [])),(5,.ptr 3 0),(1000000,.ptr 0 0),(1000001,.ptr 1 0)]) (n:=14) (S':=[gY lc,.cells [.buf 2 1 1 none],.cells [ah e.1],.oR (L.map λe=>.str e.1) (L.map λe=>an e.2) bs c (pos++[j])]) [0,1,5,3] g9 rfl (MZ (kY @gY.eq_1 @A5.eq_1 @A4.eq_1 @yE.eq_1 @yB.eq_1)) (M0 (kY @gY.eq_1 @A5.eq_1 @A4.eq_1 @yE.eq_1 @yB.eq_1)))<|(zR)<|(zN) ?_;exact⟨⟨[(0,.a (.fn (.yield lc.id) [] [])),(5,.ptr 3 0),(1000000,.ptr 0 0),(1000001,.ptr 1 0)],14,[gY lc,.cells [.buf 2 1 1 none],.cells [ah e.1],.oR (L.map λe=>.str e.1) (L.map λe=>an e.2) bs c (pos++[j])],[]⟩,(cg @gY.eq_1),L.length-(pos++[j]).length,_,by rw[li];simp only[i7,i5];omega,(cg (cJ @gY.eq_1 hE1 hE2)),pos++[j],q1,q2,rfl,rfl⟩
  ·have hk1:¬out.length=0:=λh=>ho (t8 h)
   have hE1:bY 2 1 (bj L (pos++[j])).length=.buf 2 (out.length+1) 1 none:=by rw[hsn,li,hhl,hout];exact dQ ge
   have hE2:e8 ((bj L (pos++[j])).map (·.1))=.cells ((out++[e.1]).flatMap (aD ah)):=by rw[hsn,bh,hout];exact fK ge
   have hcl3:=aU (enc:=aD ah) (e:=1) gc out;have hkc3:=λo=>bp (enc:=aD ah) gc o out;have happ:=kr (enc:=aD ah) (e:=1) gc (λ_=>rfl) 2 out e.1;rw[show aD ah e.1=[ah e.1] from rfl,d6] at happ;rw[d6] at hcl3;rw[fK ho,dQ hk1];refine(aB (vc hkc3 hcl3 @d6 (show out.length<=1000000 by omega) @al happ)) ?_;refine⟨rfl,0,.busy,none,[(2,.ptr 1 0)],rfl,?_⟩;simp only[yB,laid,ad,bd,↓reduceIte]
   refine oA [(12,an true),(0,.a (.fn (.yield lc.id) [] [])),(5,.ptr 3 0),(1000000,.ptr 0 0),(1000001,.ptr 1 0)] [gY lc,.cells [.buf 2 (out.length+1) 1 none],.cells ((out++[e.1]).flatMap (aD ah)),.oR (L.map λe=>.str e.1) (L.map λe=>an e.2) bs c (pos++[j])] (cg (kY @gY.eq_1 @yB.eq_1 @A5.eq_1 @A4.eq_1 @yE.eq_1))<|(zR)<|(zN) ?_;exact⟨⟨[(0,.a (.fn (.yield lc.id) [] [])),(5,.ptr 3 0),(1000000,.ptr 0 0),(1000001,.ptr 1 0)],14,[gY lc,.cells [.buf 2 (out.length+1) 1 none],.cells ((out++[e.1]).flatMap (aD ah)),.oR (L.map λe=>.str e.1) (L.map λe=>an e.2) bs c (pos++[j])],[]⟩,(cg @gY.eq_1),L.length-(pos++[j]).length,_,by rw[li];simp only[i7,i5];omega,(cg (cJ @gY.eq_1 hE1 hE2)),pos++[j],q1,q2,rfl,rfl⟩
def D5(L:List (List Nat×Bool))(hlen:L.length<=100000)(hnd:(L.map (·.1)).Nodup):SC prog 233 [bH,.fn 149 [] [.ip [mc AV.str an L]]] [] [] (λr S'=>∃out:List (List Nat),out.Perm (L.map (·.1))/\r=bY 0 1 out.length/\S'=[e8 out,.gone]):=by
 refine SC.tn (n:=13) dx d8 rfl rfl g9 (W:=[]) rfl g9 ?_;refine(nD)<|zA [(2,.ptr 0 0),(6,.fn 149 [] [.ip [mc AV.str an L]])] [.cells [bH],.gone] zH<|(zB) ?_;refine aE.ud (f1:=[(2,.ptr 0 0)]) dx ii func149 ii UY ?_
 rintro N lc hid hn hps ha hb
 have hcd:tb lc:=by
  unfold tb;rw[d8,ha,hb];rfl
 have hsc:=Hi L lc hcd hn hps hlen hnd;refine⟨[3,0,1],_,_,_,_,hsc,?_,rfl,by decide,?_,?_⟩
 ·simp only[gA,bP,cY,ao,dB,aP,↓reduceIte,af,aj,bd,hid,List.map,ey,cons_append,nil_append]
  try rfl
 ·rintro(_ | _ | _ | i) so h
  ·cases h;exact⟨3,rfl,by rfl⟩
  ·cases h;exact⟨0,rfl,by rfl⟩
  ·cases h;exact⟨1,rfl,by rfl⟩
  ·cases h
 rintro r S' ⟨rfl,out,hp,rfl⟩
 have hbn:∀n:Nat,dD 3 (bY 2 1 n)=true:=λn=>by
  unfold bY;split
  ·exact gq rfl
  ·rfl
 have hrn3:∀(B n:Nat),qa (j8 [3,0,1] B) (.cells [bY 2 1 n])=.cells [bY 1 1 n]:=λB n=>by
  show SO.cells [fq _ _]=_;rw[dK];rfl
 refine⟨by simp only[gY,CE,gA,bP,ao,aj,ap,decide_true,↓gQ,↓hbn];first | done | rfl,3,.ready,none,[(2,.ptr 0 0)],by rfl,by decide,by rfl,?_⟩
 have hS2:(dP (eJ (eJ [SO.cells [bH],SO.gone] (SO.mA N)) (SO.loop lc .ready none [(2,.ptr 0 0)])) [3,0,1] [2] [gY lc,.cells [bY 2 1 out.length],e8 out]).set 3 .gone=[.cells [bY 1 1 out.length],e8 out,.mA N,.gone]:=by
  simp only[dP,eJ,dh,de,gg,gK,i7,i5,List.map,ac,li,↓hrn3,↓eN];rfl
 rw[hS2];change aE _ _ _ ⟨[(2,.ptr 0 0)],13,[.cells [bY 1 1 out.length],e8 out,.mA N,.gone],[{ fn:=none,Fe:=N,args:=[],cap:=[] }]⟩ _;refine(zV) ?_;refine zA [(4,bY 0 1 out.length)] [e8 out,.mA N] (Fg.rn (f':=[(4,bY 0 1 out.length)]) (n:=13) (S':=[e8 out,.mA N]) [1,2] g9 rfl (MZ (bm @dK @eN)) (M0 (bm @dK @eN))) ?_;refine aE.ret ?_
 (try simp only[ea,cz,bI,bx])
 exact⟨rfl,[(4,bY 0 1 out.length)],⟨rfl,trivial⟩,rfl,.inl ⟨rfl,1,rfl,⟨[bY 0 1 out.length],by rfl,out,hp,rfl,rfl⟩,a7 _,λi hi=>un hi (dv _)⟩⟩
def sw(L:List (List Nat×Bool))(hlen:L.length<=100000)(hnd:(L.map (·.1)).Nodup):SC prog 148 [.fn 149 [] [.ip [mc AV.str an L]]] [] [] (λr S'=>∃out:List (List Nat),out.Perm (L.map (·.1))/\r=bY 0 1 out.length/\S'=[e8 out,.gone]):=by
 refine Mv 5 Tryz.func148 ?_;refine(jC) ?_;refine aN.sc [] ii rfl rfl ii rfl zc (D5 L hlen hnd) (by simp only[gA,bP,ao];first | done | rfl) rfl g9 (λi so h=>by simp at h) ?_ ?_
 ·rintro r S' ⟨out,hp,rfl,rfl⟩;exact⟨fC 1 1 _,by simp only[CE,↓gQ];first | done | rfl⟩
 ·rintro r S' ⟨out,hp,rfl,rfl⟩;have e1:fq (j8 [] ([]:List SO).length) (bY 0 1 out.length)=bY 0 1 out.length:=dK _ 0 1 _
  have e2:dP [] [] [] [e8 out,.gone]=[e8 out,.gone]:=by
   simp only[dP,de,gg,gK,i7,i5,List.map,↓eN];rfl
  rw[e1,e2]
  refine oA [(4,bY 0 1 out.length)] [e8 out,.gone] zH<|(zR)<|(zE) ?_;exact zP [.tmp 2] (hq:=by (try simp only[eC,bK]);first | done | (exact⟨out,hp,rfl,rfl⟩))
def EN(L:List (List Nat×Bool))(hlen:L.length<=100000)(hnd:(L.map (·.1)).Nodup)(hne:L≠[]):SC prog 64 [.fn 149 [] [.ip [mc AV.str an L]]] [] [] (λr S'=>r=.buf 0 L.length 1 none/\S'=[.cells ((eh (L.map (·.1))).flatMap (aD ah))]):=by
 refine Mv 9 func64 ?_;refine(jC) ?_;refine aN.sc [] ii rfl rfl ii rfl zc (sw L hlen hnd) (by simp only[gA,bP,ao];first | done | rfl) rfl g9 (λi so h=>by simp at h) ?_ ?_
 ·rintro r S' ⟨out,hp,rfl,rfl⟩;exact⟨fC 1 1 _,by simp only[CE,↓gQ];first | done | rfl⟩
 ·rintro r S' ⟨out,hp,rfl,rfl⟩;have e1:fq (j8 [] ([]:List SO).length) (bY 0 1 out.length)=bY 0 1 out.length:=dK _ 0 1 _
  have e2:dP [] [] [] [e8 out,.gone]=[e8 out,.gone]:=by
   simp only[dP,de,gg,gK,i7,i5,List.map,↓eN];rfl
  rw[e1,e2]
  have hol:out.length=L.length:=by rw[hp.length_eq,ac]
  have hon:out≠[]:=λe=>hne (t8 (by rw[<-hol,e];rfl));have hso:eh out=eh (L.map (·.1)):=sW hp;have hss:=AW out i4 hon;rw[hso,hol] at hss;have hcs:∀(r:Nat->Nat) (q:List (List Nat)),mG r (q.flatMap (aD ah))=q.flatMap (aD ah):=λr q=>bl (aC (λ_=>rfl) q);have hcb:∀(B:Nat) (q:List (List Nat)),iy B (q.flatMap (aD ah))=true:=λB q=>bM (aC (λ_=>rfl) q);have hck:∀(o:Nat) (q:List (List Nat)),(q.flatMap (aD ah)).map (aP o)=q.flatMap (aD ah):=λo q=>bp (enc:=aD ah) gc o q;rw[fK hon,hol,dQ (λh=>hne (t8 h))]
  refine oA [(5,.buf 0 L.length 1 none)] [.cells (out.flatMap (aD ah))] zH<|(zR)<|(zC) ?_;refine zS [0] (cJ hcs hcb hck) hss ?_;refine(zR)<|(zV)<|(zE) ?_;exact zP [.tmp 2]
def BB:SC prog 64 [.fn 149 [] [.ip [mc AV.str an []]]] [] [] (λr S'=>r=bH/\S'=[]):=by
 refine Mv 9 func64 ?_;refine(jC) ?_;refine aN.sc [] ii rfl rfl ii rfl zc (sw [] (a7 _) aS) (by simp only[gA,bP,ao];first | done | rfl) rfl g9 (λi so h=>by simp at h) ?_ ?_
 ·rintro r S' ⟨out,hp,rfl,rfl⟩;exact⟨fC 1 1 _,by simp only[CE,↓gQ];first | done | rfl⟩
 ·rintro r S' ⟨out,hp,rfl,rfl⟩;obtain rfl:out=[]:=Perm.eq_nil hp
  refine oA [(5,bH)] [] (cg (show fq (j8 [] ([]:List SO).length) (bY 0 1 ([]:List (List Nat)).length)=bH from rfl))<|(zR)<|(zC)<|(zK uP)<|(zR)<|(zV)<|(zE) ?_;exact zP [.tmp 2]
def xX{K U:Type}[DecidableEq K]{k:K}{v:U}:∀{m:List (K×U)},(cC k v m).length<=m.length+1
 | []=>by unfold cC;simp
 | a::m=>by
  unfold cC;split
  ·rw[i7,i7];omega
  ·have:=xX (k:=k) (v:=v) (m:=m);rw[i7,i7];omega
def dW(day:Int)(m:List (List Nat×Bool))(x:kW×Bool):List (List Nat×Bool):=if x.1.day<day then cC x.1.fN true m else m
def tU(day:Int):∀(q:List (kW×Bool)) (m:List (List Nat×Bool)),(m.map (·.1)).Nodup->((q.foldl (dW day) m).map (·.1)).Nodup/\∀x,x∈(q.foldl (dW day) m).map (·.1)↔x∈m.map (·.1)\/∃e∈q,e.1.day<day/\e.1.fN=x
 | [],m,h=>⟨h,λx=>by simp⟩
 | y::q,m,h=>by
  rw[b4];by_cases hd:y.1.day<day
  ·rw[show dW day m y=cC y.1.fN true m from ut hd];obtain⟨i1,i2⟩:=tU day q (cC y.1.fN true m) (ub h);refine⟨i1,λx=>?_⟩;rw[i2,Pa];constructor
   ·rintro((rfl | h) | ⟨e,he,h1,h2⟩)
    ·exact .inr ⟨y,ba,hd,rfl⟩
    ·exact .inl h
    ·exact .inr ⟨e,am _ he,h1,h2⟩
   ·rintro(h | ⟨e,he,h1,h2⟩)
    ·exact .inl (.inr h)
    ·rcases t7 he with rfl | he
     ·exact .inl (.inl h2.symm)
     ·exact .inr ⟨e,he,h1,h2⟩
  ·rw[show dW day m y=m from v6 hd];obtain⟨i1,i2⟩:=tU day q m h;refine⟨i1,λx=>?_⟩;rw[i2];constructor
   ·rintro(h | ⟨e,he,h1,h2⟩)
    ·exact .inl h
    ·exact .inr ⟨e,am _ he,h1,h2⟩
   ·rintro(h | ⟨e,he,h1,h2⟩)
    ·exact .inl h
    ·rcases t7 he with rfl | he
     ·exact un h1 hd
     ·exact .inr ⟨e,he,h1,h2⟩
def IK{ds:List ei}{q:List (kW×Bool)}(hq:q.Perm (sm ds c l part day)):eh ((q.foldl (dW day) []).map (·.1))=ic ds c l part day:=by
 obtain⟨h1,h2⟩:=tU day q [] aS;obtain⟨_,p2⟩:=KJ ds c l part day;refine Py h1 λx=>?_;rw[h2];constructor
 ·rintro(h | ⟨e,he,h3,rfl⟩)
  ·cases h
  ·have:=(p2 e.1).1 (a8 (hq.mem_iff.1 he));exact mem_map.2 ⟨(e.1.fN,e.1.day),mem_filter.2 ⟨this.2,wl h3⟩,rfl⟩
 ·intro h;obtain⟨e,he,rfl⟩:=mem_map.1 h;obtain⟨h3,h4⟩:=mem_filter.1 he;obtain⟨x,hx,e1⟩:=mem_map.1 ((p2 ⟨part,e.1,e.2⟩).2 ⟨rfl,h3⟩);exact .inr ⟨x,hq.mem_iff.2 hx,by rw[e1];exact ww h4,by rw[e1]⟩
def Ma(day:Int)(q:List (kW×Bool)):(q.foldl (dW day) []).length<=q.length:=by
 have key:∀(q:List (kW×Bool)) (m:List (List Nat×Bool)),(q.foldl (dW day) m).length<=m.length+q.length:=by
  intro q
  induction q with
  | nil=>intro m;exact al _
  | cons y q ih=>
   intro m;rw[b4,i7]
   have h1:(dW day m y).length<=m.length+1:=by
    unfold dW;split
    ·exact xX
    ·omega
   have:=ih (dW day m y);omega
 have:=key q [];simpa using this
def RD(d:kW):uC (oq d)=.ag [ah d.part,ah d.fN,ab d.day]:=rfl
def O4(ds:List ei)(c:List aM)(l:List br)(part:List Nat)(day:Int):(sm ds c l part day).length<=ds.length:=by
 unfold sm;split
 ·exact a7 _
 ·split
  ·exact a7 _
  ·rename_i p _ _
   have key:∀(ds:List ei) (m:List (kW×Bool)),(ds.foldl (jk l part day p.kind) m).length<=m.length+ds.length:=by
    intro q
    induction q with
    | nil=>intro m;exact al _
    | cons y q ih=>
     intro m;rw[b4,i7]
     have h1:(jk l part day p.kind m y).length<=m.length+1:=by
      unfold jk;split
      ·exact xX
      ·omega
     have:=ih (jk l part day p.kind m y);omega
   have:=key ds [];simpa using this
def AP(ds:List ei)(c:List aM)(l:List br)(part:List Nat)(day:Int)(hd:∀d∈ds,CQ d)(hdl:ds.length<=100000)(hc:mI c)(hlen:l.length<20)(hl:∀e∈l,lY e):PC prog 22 [ao 5 ds bf,.ag [ao 3 c ar],ao 14 l au,ah part,ab day] (·=ao 1 (ic ds c l part day) (aD ah)):=by
 have hp:=JE ds c l part day hd i4 hc hlen hl;have hpl:=O4 ds c l part day;have hpk:=(KJ ds c l part day).1;have hsr:=λq hq=>IK (ds:=ds) (c:=c) (l:=l) (part:=part) (day:=day) (q:=q) hq;generalize sm ds c l part day=M at hp hpl hpk hsr
 refine pB 35 Tryz.func22 ?_;refine(zV) ?_;refine zZ ((0,ao 5 ds bf)::(6,.ip [ao 3 c ar])::(2,ao 14 l au)::(3,ah part)::[(4,ab day)]) 0 rfl (gE @ao.eq_1)<|zA ((0,ao 5 ds bf)::(6,.ip [ao 3 c ar])::(2,ao 14 l au)::(3,ah part)::[(4,ab day)]) [] zH<|(jC)<|(zK hp (hfl:=.inr zr)) ?_;refine aN.UT (ks:=M.map λe=>oq e.1) (vs:=M.map λe=>an e.2) ii rfl rfl ii rfl (by simp only[aF]) ?_
 intro bs c hbs;refine(zR) ?_
 (repeat refine aE.seq ?_)
 refine aE.block (aE.loop (λm st=>∃pos:List Nat,pos.Nodup/\(∀j∈pos,j<M.length)/\M.length-pos.length=m/\st=⟨[(4,ab day),(11,.map 0),(20,.ptr 1 0)],35,[bG AV.str an ((bj M pos).foldl (dW day) []),.oR (M.map λe=>oq e.1) (M.map λe=>an e.2) bs c pos],[]⟩) M.length (cg (show SO.map [] [] none=bG AV.str an ((bj M []).foldl (dW day) []) from rfl)) ⟨[],aS,λj h=>(dt h).elim,rfl,rfl⟩ (by rintro m st ⟨_,_,_,_,rfl⟩;rfl) ?_);rintro m st ⟨pos,hpn,hpl2,rfl,rfl⟩;refine(zC) ?_;refine aN.UR ii rfl rfl ii rfl rfl (λj hj=>by rw[ac];exact hpl2 j hj) ?_ ?_;rotate_left
 ·intro j hj hjn;rw[ac] at hj;obtain⟨e,he⟩:∃e,M[j]?=some e:=⟨M[j],jp hj⟩;obtain⟨q1,q2,q3⟩:=qW hpn hpl2 hj hjn
  have hsn:(bj M (pos++[j])).foldl (dW day) []=dW day ((bj M pos).foldl (dW day) []) e:=by rw[lq M pos he,bw];rfl
  rw[show ∀m,dW day m e=if e.1.day<day then cC e.1.fN true m else m from λ_=>rfl] at hsn;generalize (bj M pos).foldl (dW day) []=nm at hsn ⊢
  have hmeas:M.length-(pos++[j]).length<M.length-pos.length:=by rw[li];simp only[i7,i5];omega
  refine(cM @qP)<|(fw)<|(zC) ?_;refine aN.UL (k:=oq e.1) (v:=an e.2) ii rfl rfl ii rfl rfl (by rw[ax,he];rfl) (by rw[ax,he];rfl) ?_;refine(cM (bm @RD @qP)) ?_
  by_cases hb:e.1.day<day
  ·rw[ut hb] at hsn
   refine(aB (wl hb))<|(zY)<|(zs) ?_;refine aE.r0 ii (by simp only[cY,bP,ao,aF,m7,m6,↓reduceIte,af,aj,ay,ad,ap,aq,aA,bD,rX (l:=nm),qP];first | done | rfl) ?_;exact⟨M.length-(pos++[j]).length,_,hmeas,(cg hsn),pos++[j],q1,q2,rfl,rfl⟩
  ·rw[v6 hb] at hsn
   refine(aB (wd hb))<|(zN) ?_;exact⟨M.length-(pos++[j]).length,_,hmeas,(cg hsn),pos++[j],q1,q2,rfl,rfl⟩
 intro hall;have hperm:(bj M pos).Perm M:=mT hpn hpl2 λj hj=>hall j (by rw[ac];exact hj);have hkn:=(tU day (bj M pos) [] aS).1;have hkl:=Ma day (bj M pos)
 have hml:(bj M pos).length<=100000:=by rw[hperm.length_eq];omega
 have hso:=hsr _ hperm;rw[<-hso];generalize (bj M pos).foldl (dW day) []=nm at hkn hkl ⊢
 refine(cM @qP)<|(fo) ?_
 (try simp only[ea,cz,bI,bx,if_true])
 refine zZ [(11,mc AV.str an nm)] 0 rfl ⟨.inr (mu (λ_=>rfl) rfl),trivial⟩<|zA [(11,mc AV.str an nm)] [] zH<|(zC)<|(zK (Jw nm) (hfl:=.inr zr)) ?_
 by_cases hn0:nm=[]
 ·subst hn0
  refine zS [] trivial BB ?_;exact(zR)<|zo [.tmp 10] (r:=ao 1 ([]:List (List Nat)) (aD ah)) (hw:=.nil _)
 ·have hss:=EN nm i4 hkn hn0;have hcs:∀(r:Nat->Nat) (q:List (List Nat)),mG r (q.flatMap (aD ah))=q.flatMap (aD ah):=λr q=>bl (aC (λ_=>rfl) q);have hcb:∀(B:Nat) (q:List (List Nat)),iy B (q.flatMap (aD ah))=true:=λB q=>bM (aC (λ_=>rfl) q);have hck:∀(o:Nat) (q:List (List Nat)),(q.flatMap (aD ah)).map (aP o)=q.flatMap (aD ah):=λo q=>bp (enc:=aD ah) gc o q
  have hsl:(eh (nm.map (·.1))).length=nm.length:=by rw[(qo _).length_eq,ac]
  refine zS [] (cJ hcs hcb hck) hss ?_;exact(zR)<|zo [.tmp 10] (r:=.sl nm.length 1 ((eh (nm.map (·.1))).flatMap (aD ah))) (hw:=.buf rfl (by rw[<-hsl,dU (enc:=aD ah) (e:=1) gc];exact cA.refl (aC (λ_=>rfl) _)) (by rw[aU (enc:=aD ah) (e:=1) gc,hsl];exact al _)) (hq:=by rw[qf,hsl])
open Go.Ev Go.RowKit Go.Sort
def yz(x y:Int):Int:=if x<y then -1 else if y<x then 1 else 0
def jL(x y:ByteArray):Int:=if Op.bytesLess x.toList y.toList=true then -1 else if (x.toList==y.toList)=true then 0 else 1
def Bh(x y z:Int):Int:=if x≠0 then x else if y≠0 then y else z
set_option maxRecDepth 100000 in
def Jd(x y:Int)(W:World):Calls prog 78 #[.int .i64 x,.int .i64 y] W λe w'=>e=.returned (.int .i64 (yz x y))/\w'=W:=by
 unfold yz
 go_enter Tryz.func78,Tryz.ntmps78
 go_wp2
 all_goals (go_ret;exact⟨rfl,rfl⟩)
set_option maxRecDepth 100000 in
def JA(x:ByteArray)(W:World):Calls prog 159 #[.string x] W λe w'=>e=.returned (.bool false)/\w'=W:=by
 go_enter Tryz.func159,Tryz.ntmps159
 go_wp2
 go_ret
 exact⟨rfl,rfl⟩
set_option maxRecDepth 100000 in
def Az(x y:ByteArray)(W:World):Calls prog 79 #[.string x,.string y] W λe w'=>e=.returned (.int .i64 (jL x y))/\w'=W:=by
 have hn:=λz W'=>JA z W';cases h1:Op.bytesLess x.toList y.toList
 ·cases h2:(x.toList==y.toList)
  ·rw[show jL x y=1 by unfold jL;rw[h1,h2];rfl]
   go_enter e3,el
   go_wp2_with (go_at_call 159;refine(hn _ _).mono ?_;rintro e w' ⟨rfl,rfl⟩)
   all_goals (go_ret;exact⟨rfl,rfl⟩)
  ·rw[show jL x y=0 by unfold jL;rw[h1,h2];rfl]
   go_enter e3,el
   go_wp2_with (go_at_call 159;refine(hn _ _).mono ?_;rintro e w' ⟨rfl,rfl⟩)
   all_goals (go_ret;exact⟨rfl,rfl⟩)
 ·rw[show jL x y = -1 by unfold jL;rw[h1];rfl]
  go_enter e3,el
  go_wp2_with (go_at_call 159;refine(hn _ _).mono ?_;rintro e w' ⟨rfl,rfl⟩)
  all_goals (go_ret;exact⟨rfl,rfl⟩)
set_option maxRecDepth 100000 in
def PJ(x y z:Int)(W:World)(b c:Nat)(h0:W.cell? ⟨b,0,none⟩=some (.int .i64 x))(h1:W.cell? ⟨b,1,none⟩=some (.int .i64 y))(h2:W.cell? ⟨b,2,none⟩=some (.int .i64 z)):Calls prog 77 #[.slice (some ⟨b,0,none⟩) 3 c] W λe w'=>e=.returned (.int .i64 (Bh x y z))/\w'=W:=by
 by_cases g1:x=0
 ·by_cases g2:y=0
  ·rw[show Bh x y z=z by unfold Bh;simp[g1,g2]];subst g1 g2;by_cases g3:z=0
   ·subst g3
    go_enter dl,cv
    go_wp2
    refine wp_loop_rounds 4 ?_;rw[rounds_succ]
    go_wp2
    rw[rounds_succ]
    go_wp2
    rw[rounds_succ]
    go_wp2
    rw[rounds_succ]
    go_wp2
    all_goals (go_ret;exact⟨rfl,rfl⟩)
   ·go_enter dl,cv
    go_wp2
    refine wp_loop_rounds 3 ?_;rw[rounds_succ]
    go_wp2
    rw[rounds_succ]
    go_wp2
    rw[rounds_succ]
    go_wp2
    all_goals (go_ret;exact⟨rfl,rfl⟩)
  ·rw[show Bh x y z=y by unfold Bh;simp[g1,g2]];subst g1
   go_enter dl,cv
   go_wp2
   refine wp_loop_rounds 2 ?_;rw[rounds_succ]
   go_wp2
   rw[rounds_succ]
   go_wp2
   all_goals (go_ret;exact⟨rfl,rfl⟩)
 ·rw[show Bh x y z=x by unfold Bh;simp[g1]]
  go_enter dl,cv
  go_wp2
  refine wp_loop_rounds 1 ?_;rw[rounds_succ]
  go_wp2
  all_goals (go_ret;exact⟨rfl,rfl⟩)
def Mi(W:World)(cs:Array Value)(t:TypeId)(i:Nat):(W.alloc (Obj.cells cs t)).cell? ⟨W.heap.size,i,none⟩=cs[i]?:=by
 unfold World.cell?;rw[show(W.alloc (Obj.cells cs t)).heap=W.heap.push (Obj.cells cs t) from rfl];simp only[ce];rw[ut trivial];rfl
def MU(W:World)(cs ds:Array Value)(t:TypeId):(∀i,(World.drew ((W.alloc (Obj.cells cs t)).alloc (Obj.cells ds t))).cell? ⟨W.heap.size,i,none⟩=cs[i]?)/\(∀i,(World.drew ((W.alloc (Obj.cells cs t)).alloc (Obj.cells ds t))).cell? ⟨W.heap.size+1,i,none⟩=ds[i]?)/\World.drew ((W.alloc (Obj.cells cs t)).alloc (Obj.cells ds t))=grow (W.drewN 1) #[Obj.cells cs t,Obj.cells ds t]:=by
 have e:(World.drew ((W.alloc (Obj.cells cs t)).alloc (Obj.cells ds t))).heap=(W.heap.push (Obj.cells cs t)).push (Obj.cells ds t):=rfl;refine⟨λi=>?_,λi=>?_,?_⟩
 ·unfold World.cell?;rw[e];simp only[ce,es];rw[v6 i4,ut trivial];rfl
 ·unfold World.cell?;rw[e];simp only[ce,es];rw[ut trivial];rfl
 ·unfold grow World.drewN World.drew
  congr 1
set_option maxRecDepth 100000 in
def Bm(x1 y1:Int)(x2 x3 y2 y3:ByteArray)(W:World):Calls prog 76 #[.agg #[.int .i64 x1,.string x2,.string x3],.agg #[.int .i64 y1,.string y2,.string y3]] W λe w'=>e=.returned (.int .i64 (Bh (yz x1 y1) (jL x2 y2) (jL x3 y3)))/\∃q os',w'=grow (W.drewN q) os':=by
 have hI:=λW'=>Jd x1 y1 W';have hS2:=λW'=>Az x2 y2 W';have hS3:=λW'=>Az x3 y3 W'
 go_enter func76,Tryz.ntmps76
 go_wp2
 refine wp_region_still_tail 15 zW zW ?_;change wpStill _ _ (World.drew ((W.alloc (Obj.cells #[Value.int .i64 x1,Value.string x2,Value.string x3] 65)).alloc (Obj.cells #[Value.int .i64 y1,Value.string y2,Value.string y3] 65))) (λa'=>wpList _ _ _ _ a' (World.drew ((W.alloc (Obj.cells #[Value.int .i64 x1,Value.string x2,Value.string x3] 65)).alloc (Obj.cells #[Value.int .i64 y1,Value.string y2,Value.string y3] 65)))) _ _;obtain⟨k1,k2,k3⟩:=MU W #[Value.int .i64 x1,Value.string x2,Value.string x3] #[Value.int .i64 y1,Value.string y2,Value.string y3] 65;have a0:(World.drew ((W.alloc (Obj.cells #[Value.int .i64 x1,Value.string x2,Value.string x3] 65)).alloc (Obj.cells #[Value.int .i64 y1,Value.string y2,Value.string y3] 65))).cell? ⟨W.heap.size,0,none⟩=some (.int .i64 x1):=k1 0;have a1:(World.drew ((W.alloc (Obj.cells #[Value.int .i64 x1,Value.string x2,Value.string x3] 65)).alloc (Obj.cells #[Value.int .i64 y1,Value.string y2,Value.string y3] 65))).cell? ⟨W.heap.size,1,none⟩=some (.string x2):=k1 1;have a2:(World.drew ((W.alloc (Obj.cells #[Value.int .i64 x1,Value.string x2,Value.string x3] 65)).alloc (Obj.cells #[Value.int .i64 y1,Value.string y2,Value.string y3] 65))).cell? ⟨W.heap.size,2,none⟩=some (.string x3):=k1 2;have b0:(World.drew ((W.alloc (Obj.cells #[Value.int .i64 x1,Value.string x2,Value.string x3] 65)).alloc (Obj.cells #[Value.int .i64 y1,Value.string y2,Value.string y3] 65))).cell? ⟨W.heap.size+1,0,none⟩=some (.int .i64 y1):=k2 0;have b1:(World.drew ((W.alloc (Obj.cells #[Value.int .i64 x1,Value.string x2,Value.string x3] 65)).alloc (Obj.cells #[Value.int .i64 y1,Value.string y2,Value.string y3] 65))).cell? ⟨W.heap.size+1,1,none⟩=some (.string y2):=k2 1;have b2:(World.drew ((W.alloc (Obj.cells #[Value.int .i64 x1,Value.string x2,Value.string x3] 65)).alloc (Obj.cells #[Value.int .i64 y1,Value.string y2,Value.string y3] 65))).cell? ⟨W.heap.size+1,2,none⟩=some (.string y3):=k2 2;have HD:Hid ((World.drew ((W.alloc (Obj.cells #[Value.int .i64 x1,Value.string x2,Value.string x3] 65)).alloc (Obj.cells #[Value.int .i64 y1,Value.string y2,Value.string y3] 65)))=grow (W.drewN 1) #[Obj.cells #[Value.int .i64 x1,Value.string x2,Value.string x3] 65,Obj.cells #[Value.int .i64 y1,Value.string y2,Value.string y3] 65]):=k3;clear k1 k2 k3;generalize (World.drew ((W.alloc (Obj.cells #[Value.int .i64 x1,Value.string x2,Value.string x3] 65)).alloc (Obj.cells #[Value.int .i64 y1,Value.string y2,Value.string y3] 65)))=W2 at a0 a1 a2 b0 b1 b2 HD ⊢;simp only[List.take_succ_cons,take_zero,List.drop_succ_cons,c0]
 still_step
 still_step
 still_step
 still_step
 still_call (hI _)
 still_step
 still_step
 still_step
 still_step
 still_call (hS2 _)
 still_step
 still_step
 still_step
 still_step
 still_call (hS3 _)
 refine wpStill_nil ?_;have hal:∀(W2:World) (cs:Array Value) (t:TypeId) (i:Nat),(W2.alloc (Obj.cells cs t)).cell? ⟨W2.heap.size,i,none⟩=cs[i]?:=Mi
 go_wp2_with (go_at_call 77;refine(PJ (yz x1 y1) (jL x2 y2) (jL x3 y3) _ W2.heap.size 3 (hal _ _ _ 0) (hal _ _ _ 1) (hal _ _ _ 2)).mono ?_;rintro e w' ⟨rfl,rfl⟩)
 go_ret
 refine⟨rfl,1,#[Obj.cells #[Value.int .i64 x1,Value.string x2,Value.string x3] 65,Obj.cells #[Value.int .i64 y1,Value.string y2,Value.string y3] 65,Obj.cells #[Value.int .i64 (yz x1 y1),Value.int .i64 (jL x2 y2),Value.int .i64 (jL x3 y3)] 3],?_⟩;rw[HD.out];rfl
open Go.Shelf
def qu:Go.Shelf.Ren:=⟨λ| 6=>156 | 15=>127 | 14=>238 | 28=>212 | 29=>213 | 20=>287 | 21=>288 | 22=>289 | 23=>290 | 24=>291 | 25=>292 | 26=>293 | 27=>294 | 46=>314 | 47=>270 | 48=>271 | 49=>315 | 50=>316 | 57=>326 | n=>n,λ| 22=>41 | 24=>65 | 25=>163 | 3=>3 | 39=>210 | 0=>0 | 53=>281 | 55=>283 | 4=>4 | 46=>274 | 45=>273 | 50=>122 | 5=>5 | 9=>9 | 66=>318 | 70=>322 | 76=>344 | 77=>345 | n=>n,λ| n=>n⟩
def wU:Go.Proofs.SlLaysF0.n6 prog qu:={
 mixed:=by kernel_rfl
 f6:=⟨Tryz.f156.name,by decide,func156.trans (rc some zW)⟩
 f14:=⟨Tryz.f238.name,by decide,func238.trans (rc some zW)⟩
 f15:=Tryz.func127.trans (rc some zW)
 f20:=⟨Tryz.f287.name,by decide,func287.trans (rc some zW)⟩
 f21:=⟨Tryz.f288.name,by decide,Tryz.func288.trans (rc some zW)⟩
 f22:=⟨Tryz.f289.name,by decide,Tryz.func289.trans (rc some zW)⟩
 f23:=⟨Tryz.f290.name,by decide,Tryz.func290.trans (rc some zW)⟩
 f24:=⟨Tryz.f291.name,by decide,Tryz.func291.trans (rc some zW)⟩
 f25:=⟨Tryz.f292.name,by decide,Tryz.func292.trans (rc some zW)⟩
 f26:=⟨Tryz.f293.name,by decide,Tryz.func293.trans (rc some zW)⟩
 f27:=⟨Tryz.f294.name,by decide,Tryz.func294.trans (rc some zW)⟩
 f28:=Tryz.func212.trans (rc some zW)
 f29:=Tryz.func213.trans (rc some zW)
 f46:=⟨Tryz.f314.name,by decide,Tryz.func314.trans (rc some zW)⟩
 f47:=Tryz.func270.trans (rc some zW)
 f48:=Tryz.func271.trans (rc some zW)
 f49:=⟨Tryz.f315.name,by decide,Tryz.func315.trans (rc some zW)⟩
 f50:=⟨Tryz.f316.name,by decide,Tryz.func316.trans (rc some zW)⟩
 f57:=⟨Tryz.f326.name,by decide,Tryz.func326.trans (rc some zW)⟩
 t0:=Tryz.underlying0
 a0:=Tryz.isAgg0
 z0:=Tryz.sizeOf0
 v0:=Tryz.zeroValue0
 t3:=Tryz.underlying3
 a3:=Tryz.isAgg3
 z3:=Tryz.sizeOf3
 v3:=Tryz.zeroValue3
 t4:=Tryz.underlying4
 a4:=Tryz.isAgg4
 z4:=Tryz.sizeOf4
 v4:=Tryz.zeroValue4
 t5:=Tryz.underlying5
 a5:=Tryz.isAgg5
 z5:=Tryz.sizeOf5
 v5:=Tryz.zeroValue5
 t9:=Tryz.underlying9
 a9:=Tryz.isAgg9
 z9:=Tryz.sizeOf9
 v9:=Tryz.zeroValue9
 t22:=Tryz.underlying41
 a22:=Tryz.isAgg41
 z22:=Tryz.sizeOf41
 v22:=Tryz.zeroValue41
 t25:=Tryz.underlying163
 a25:=Tryz.isAgg163
 z25:=Tryz.sizeOf163
 v25:=Tryz.zeroValue163
 t39:=Tryz.underlying210
 a39:=Tryz.isAgg210
 z39:=Tryz.sizeOf210
 v39:=Tryz.zeroValue210
 t45:=Tryz.underlying273
 a45:=Tryz.isAgg273
 z45:=Tryz.sizeOf273
 v45:=Tryz.zeroValue273
 t46:=Tryz.underlying274
 a46:=Tryz.isAgg274
 z46:=Tryz.sizeOf274
 v46:=Tryz.zeroValue274
 t50:=Tryz.underlying122
 a50:=Tryz.isAgg122
 z50:=Tryz.sizeOf122
 v50:=Tryz.zeroValue122
 t53:=Tryz.underlying281
 a53:=Tryz.isAgg281
 z53:=Tryz.sizeOf281
 v53:=Tryz.zeroValue281
 t55:=Tryz.underlying283
 a55:=Tryz.isAgg283
 z55:=Tryz.sizeOf283
 v55:=Tryz.zeroValue283
 t66:=Tryz.underlying318
 a66:=Tryz.isAgg318
 z66:=Tryz.sizeOf318
 v66:=Tryz.zeroValue318
 t70:=Tryz.underlying322
 a70:=Tryz.isAgg322
 z70:=Tryz.sizeOf322
 v70:=Tryz.zeroValue322
 t76:=Tryz.underlying344
 a76:=Tryz.isAgg344
 z76:=Tryz.sizeOf344
 v76:=Tryz.zeroValue344
 t77:=Tryz.underlying345
 a77:=Tryz.isAgg345
 z77:=Tryz.sizeOf345
 v77:=Tryz.zeroValue345 }
open Go.Ev Go.RowKit Go.Shelf Go.Lib Go.Sort
set_option maxRecDepth 100000 in
def Js(p:Option Addr)(cap:Nat)(fv:Value)(w:World):
 Calls prog 287 #[.slice p 0 cap,.int .i64 0,.int .i64 0,fv] w λe w'=>e=.returned (.tuple #[])/\w'=w:=by
 go_enter func287,Tryz.ntmps287
 go_wp2
 refine wp_loop_rounds 1 ?_;rw[rounds_succ]
 go_wp2
 go_end0
 exact⟨rfl,rfl⟩
set_option maxRecDepth 100000 in
def JD(p:Option Addr)(cap:Nat)(lim:Int)(fv:Value)(w:World):
 Calls prog 238 #[.slice p 0 cap,.int .i64 0,.int .i64 0,.int .i64 lim,fv] w λe w'=>e=.returned (.tuple #[])/\w'=w:=by
 have hi:=λW=>Js p cap fv W
 go_enter func238,Tryz.ntmps238
 go_wp2
 refine wp_loop_rounds 1 ?_;rw[rounds_succ]
 go_wp2_with (go_at_call 287;refine(hi _).mono ?_;rintro e w' ⟨rfl,rfl⟩)
 (try simp only[Exit.inBlock,Exit.then])
 refine bodyPost_ret (results_none rfl _ _ _) rfl ?_;exact⟨rfl,rfl⟩
set_option maxRecDepth 100000 in
def Hv(p:Option Addr)(cap:Nat)(fv:Value)(w:World):
 Calls prog 156 #[.slice p 0 cap,fv] w λe w'=>e=.returned (.tuple #[])/\w'=w:=by
 have hp:=λlim W=>JD p cap lim fv W
 have hl:∀W,Calls prog 127 #[.int .u64 0] W λe w'=>e=.returned (.int .i64 (Lib.bitLen 0:Nat))/\w'=W:=λW=>
  Any.bits_Len (SlLaysF0.n15.bits (P:=prog) (ρ:=qu) { wU with }) 0 W i4 i4
 go_enter func156,Tryz.ntmps156
 go_wp2_with (first | (go_at_call 127;refine(hl _).mono ?_;rintro e w' ⟨rfl,rfl⟩) | (go_at_call 238;refine(hp _ _).mono ?_;rintro e w' ⟨rfl,rfl⟩))
 go_end0
 exact⟨rfl,rfl⟩
abbrev TF:=Int×ByteArray×ByteArray
def lS(x:TF):List Value:=[.int .i64 x.1,.string x.2.1,.string x.2.2]
def iQ(x:TF):aw:=⟨x.1,kD x.2.1,kD x.2.2⟩
def T0(x y:TF):Int:=Bh (yz x.1 y.1) (jL x.2.1 y.2.1) (jL x.2.2 y.2.2)
def aw.av(f:aw):List AV:=[.int .i64 f.kind,.str f.part,.str f.name]
def tp(x y:ByteArray):Op.bytesLess x.toList y.toList=fF (kD x) (kD y):=by
 unfold kD;simp only[ByteArray.toList_eq];exact(oW _ _).symm
def Fl(x y:ByteArray):(x.toList==y.toList)=decide (kD x=kD y):=by
 unfold kD;simp only[ByteArray.toList_eq];by_cases h:x.data.toList=y.data.toList
 ·rw[h];simp
 ·have:¬x.data.toList.map (·.toNat)=y.data.toList.map (·.toNat):=λhe=>h (List.map_inj_right (λx y=>UInt8.toNat_inj.1) |>.1 he);have h2:¬x.data=y.data:=λe=>h (by rw[e]);simp[h2,this]
def DF(x y:TF):ltOf T0 x y=sd (iQ x) (iQ y):=by
 have e1:jL x.2.1 y.2.1=if fF (iQ x).part (iQ y).part=true then -1 else if (iQ x).part=(iQ y).part then 0 else 1:=by
  unfold jL;rw[tp,Fl];simp only[wp];rfl
 have e2:jL x.2.2 y.2.2=if fF (iQ x).name (iQ y).name=true then -1 else if (iQ x).name=(iQ y).name then 0 else 1:=by
  unfold jL;rw[tp,Fl];simp only[wp];rfl
 unfold ltOf T0 sd;rw[e1,e2,show x.1=(iQ x).kind from rfl,show y.1=(iQ y).kind from rfl];generalize iQ x=a;generalize iQ y=b;unfold Bh yz
 rcases c4 a.kind b.kind with h | h | h
 ·simp[h]
 ·have h1:¬a.kind<b.kind:=by omega
  have h2:¬b.kind<a.kind:=by omega
  cases g1:fF a.part b.part
  ·by_cases g2:a.part=b.part
   ·cases g3:fF a.name b.name
    ·by_cases g4:a.name=b.name<;>simp[h,g2,g4,c9]
    ·simp[h,g2,c9,g3]
   ·simp[h,g1,g2]
  ·simp[h,g1]
 ·have h1:¬a.kind<b.kind:=by omega
  have h2:¬a.kind=b.kind:=by omega
  simp[h,h1,h2]
def Vm:SWO (ltOf T0) where
 irrefl:=λx=>by rw[DF];exact tS _
 trans:=λx y z h1 h2=>by rw[DF] at *;exact kI h1 h2
 ntrans:=λx y z h1 h2=>by
  rw[DF] at *;cases h:sd (iQ x) (iQ z)
  ·rfl
  ·rcases xQ (iQ x) (iQ y) with g | g | g
   ·rw[g] at h1;cases h1
   ·rw[g,h2] at h;cases h
   ·have:=kI g h;rw[h2] at this;cases this
def Bn(Fe off size:Nat)(w:World):CmpLays prog 76 #[] lS 3 T0 Fe off size w:=
 λ_ _ _ _ x y=>Bm x.1 y.1 x.2.1 x.2.2 y.2.1 y.2.2 _
def Mj(x:TF):∀v∈lS x,v.oneCell'=true:=by
 intro v hv;simp[lS] at hv
 rcases hv with rfl | rfl | rfl<;>rfl
def Ui:Option Value->ByteArray
 | some (.string s)=>s
 | _=>ByteArray.empty
def Vf:Option Value->Int
 | some (.int _ n)=>n
 | _=>0
def GJ(c:Array Value)(d i:Nat):TF:=(Vf c[d+i*3]?,Ui c[d+i*3+1]?,Ui c[d+i*3+2]?)
def Ms{σ:Sg}{c:Array Value}{d:Nat}{ts:List aw}(hV:∀(i:Nat) (a:AV),(ts.map aw.av).flatten[i]?=some a->∃v,c[d+i]?=some v/\V σ a v){i:Nat}{t:aw}(ht:ts[i]?=some t):
 iQ (GJ c d i)=t/\∀k,k<3->c[d+i*3+k]?=some (lS (GJ c d i))[k]!:=by
 have hw:∀r∈ts.map aw.av,r.length=3:=by intro r hr;obtain⟨t,_,rfl⟩:=mem_map.1 hr;rfl
 have hg:=(by rw[ax,ht];rfl:(ts.map aw.av)[i]?=some t.av);have h0:=pM hw hg (k:=0) i4;have h1:=pM hw hg (k:=1) i4;have h2:=pM hw hg (k:=2) i4;obtain⟨v0,g0,V0⟩:=hV _ _ (h0.trans (show t.av[0]?=some (.int .i64 t.kind) from rfl));obtain⟨v1,g1,V1⟩:=hV _ _ (h1.trans (show t.av[1]?=some (.str t.part) from rfl));obtain⟨v2,g2,V2⟩:=hV _ _ (h2.trans (show t.av[2]?=some (.str t.name) from rfl));rw[fl] at g0;rw[<-Nat.add_assoc] at g1 g2;cases V0
 cases V1 with
 | @str _ s0 e0=>cases V2 with
  | @str _ s1 e1=>
   have hrd:GJ c d i=(t.kind,s0,s1):=by unfold GJ;rw[g0,g1,g2];rfl
   rw[hrd];refine⟨?_,λk hk=>?_⟩
   ·unfold iQ kD;simp only[e0,e1]
   ·match k,hk with
    | 0,_=>rw[fl];exact g0
    | 1,_=>exact g1
    | 2,_=>exact g2
def Hw(ts:List aw)(id bX:Nat)(h:Ev.H)(ho:h.aW.get id=some (.cells (ts.map aw.av).flatten bX))(hne:ts≠[])(hlen:ts.length<=1000000):
 ee prog (.func 156) [.slice (some (id,0)) ts.length 3 none,.fn (.func 76) [] []] h (λr h'=>r=.cx []/\∃ts':List aw,ts'.Perm ts/\(ts'.Pairwise λa b=>sd b a=false)/\h.store id 0 (ts'.map aw.av).flatten=some h'):=by
 intro σ w args' hv hr;obtain⟨x,y,rfl,hx,hy⟩:=Fb hv
 cases hy with
 | @fn _ _ _ fs' cs' hfy k1 k2 k3 k4=>
 have hfs:fs'=#[]:=b9 (by rw[<-k1];rfl);have hcs:cs'=#[]:=b9 (by rw[<-k3];rfl);subst hfs;subst hcs
 have hw0:∀r∈ts.map aw.av,r.length=3:=by intro r hr;obtain⟨t,_,rfl⟩:=mem_map.1 hr;rfl
 rw[eg dx func156 ii]
 have hpos:0<ts.length:=by
  cases ts with
  | nil=>exact un rfl hne
  | cons=>exact Nat.succ_pos _
 cases hx with
 | @slice _ _ _ _ _ a p c hs hl hrr hcc ha=>
 have ha:a=⟨p.b,p.d+0,none⟩:=ha.resolve_right i4;subst ha;obtain⟨q,carr,et,hq,hb,hsz,hlen',hVc⟩:=hr.cells ho;rw[hs] at hq;cases hq
 have hfl:(ts.map aw.av).flatten.length=ts.length*3:=by
  have:=jP (s:=3) hw0;rw[ac] at this;exact this
 have hpl:=hr.lt ho hs
 let d:Array TF:=Array.ofFn (n:=ts.length) λi=>GJ carr p.d i.1
 have hdsz:d.size=ts.length:=by simp[d]
 have hdi:∀i,i<ts.length->d[i]! = GJ carr p.d i:=λi hi=>by
  rw[getElem!_pos d i (by rw[hdsz];exact hi)];simp[d]
 have hspec:∀i,i<ts.length->ts[i]?=some (iQ (GJ carr p.d i))/\∀k,k<3->carr[p.d+i*3+k]?=some (lS (GJ carr p.d i))[k]!:=λi hi=>
  have g:=Ms hVc (jp hi)
  ⟨by rw[jp hi,g.1],g.2⟩
 have hH:HoldsK lS 3 w p.b (p.d+0) d:=by
  intro j hj;rw[size_flatK,hdsz] at hj
  have hi:j/3<ts.length:=by omega
  have hk:j%3<3:=by omega
  rw[get_flatK _ _ _ _ (by rw[hdsz];exact hj),hdi _ hi];have:=(hspec _ hi).2 _ hk;refine⟨?_,vn hb⟩;rw[cell_of hb,show p.d+0+j=p.d+j/3*3+j%3 by omega];exact this
 have hmain:=AnyQ.slices_SortFunc wU 3 Tryz.isAgg65 Tryz.sizeOf65 lS (λ_=>rfl) Mj T0 Vm 76 #[] p.b (p.d+0) c d w (enters_of func76 zW rfl)
  (Bn p.b (p.d+0) d.size w) hH hpl (by rw[hdsz];omega)
 rw[hdsz] at hmain;change Calls prog 156 _ _ _ at hmain;refine Calls.mono hmain ?_;rintro e w' ⟨rfl,d',n,os,⟨hp1,_,hp3⟩,hsorted,rfl⟩;rw[hdsz] at hp1
 have hdl:d.toList.map iQ=ts:=by
  apply List.ext_getElem?;intro i;by_cases hi:i<ts.length
  ·rw[ax,cp,b5 (by rw[hdsz];exact hi),m6,(hspec i hi).1]
   congr 2
   have:=hdi i hi;rw[getElem!_pos d i (by rw[hdsz];exact hi)] at this;exact this
  ·rw[cl (by simp[hdsz];omega),cl i4]
 have hex:∀a:Array TF,a.size=ts.length->(a.extract 0 ts.length).toList=a.toList:=λa ha=>by
  rw[Array.toList_extract,List.extract_eq_take_drop,c0,Nat.sub_zero,ck (by simp[ha])]
 rw[hex _ hp1,hex _ hdsz] at hp3
 have hperm:(d'.toList.map iQ).Perm ts:=by rw[<-hdl];exact hp3.map _
 have hsx:(d'.toList.map iQ).Pairwise λa b=>sd b a=false:=by
  rw[List.pairwise_iff_getElem];intro i j hi hj hij;rw[ac,c1] at hi hj;have:=hsorted i j (a7 _) hij i4;rw[getElem!_pos d' j hj,getElem!_pos d' i hi,DF] at this;simp only[List.getElem_map,Array.getElem_toList];exact this
 have hlen2:(d'.toList.map iQ).length=ts.length:=by rw[ac,c1,hp1]
 have hw3:∀r∈(d'.toList.map iQ).map aw.av,r.length=3:=by intro r hr;obtain⟨t,_,rfl⟩:=mem_map.1 hr;rfl
 have hb1:(putRowK lS 3 (Sort.ahead w n) p.b (p.d+0) d').heap[p.b]?=some (.cells (putCells _root_.id (p.d+0) (flatK lS 3 d') carr) et (0,0)):=by
  unfold putRowK putRow mapBlock;simp only[co,if_true];rw[show(Sort.ahead w n).heap[p.b]?=some (.cells carr et (0,0)) from hb];rfl
 have hoth:∀b,b≠p.b->(putRowK lS 3 (Sort.ahead w n) p.b (p.d+0) d').heap[b]?=w.heap[b]?:=λb hbb=>by
  unfold putRowK putRow mapBlock;simp only[co];rw[v6 (λe=>hbb e.symm)];rfl
 have hVn:∀(i:Nat) (a:AV),((d'.toList.map iQ).map aw.av).flatten[i]?=some a->∃v,(putCells _root_.id (p.d+0) (flatK lS 3 d') carr)[p.d+i]?=some v/\V σ a v:=by
  intro i a hia
  have hil:i<ts.length*3:=by
   have:=Ou hia;rw[jP hw3,ac,hlen2] at this;exact this
  have hj:i/3<d'.size:=by omega
  have hrow:((d'.toList.map iQ).map aw.av)[i/3]?=some (iQ d'[i/3]!).av:=by
   rw[ax,ax,cp,b5 hj,getElem!_pos d' _ hj];rfl
  have hat:=pM hw3 hrow (k:=i%3) i4;rw[show i/3*3+i%3=i by omega,hia] at hat
  have hcl:p.d+i<carr.size:=by omega
  have hput:(putCells _root_.id (p.d+0) (flatK lS 3 d') carr)[p.d+i]?=some ((lS d'[i/3]!)[i%3]!):=by
   unfold putCells;rw[Array.getElem?_mapIdx,b5 hcl,m6,ut ⟨by omega,by rw[size_flatK];omega⟩];rw[show p.d+i-(p.d+0)=i by omega,get_flatK _ _ _ _ i4];rfl
  refine⟨_,hput,?_⟩;generalize d'[i/3]! = x at hat
  have h3:i%3=0\/i%3=1\/i%3=2:=by omega
  rcases h3 with e | e | e<;>rw[e] at hat ⊢
  ·cases hat;exact .int _ _
  ·cases hat;exact .str rfl
  ·cases hat;exact .str rfl
 obtain⟨r1,r2⟩:=hr.rewrite ho hs (cs':=((d'.toList.map iQ).map aw.av).flatten) (by rw[jP hw3,ac,hlen2,hfl]) hb hb1 (by unfold putCells;rw[Array.size_mapIdx]) hVn hoth (by unfold putRowK putRow mapBlock;simp[Sort.ahead]) rfl rfl rfl
 have hbel:Below (putRowK lS 3 (Sort.ahead w n) p.b (p.d+0) d').heap.size (putRowK lS 3 (Sort.ahead w n) p.b (p.d+0) d') (grow (putRowK lS 3 (Sort.ahead w n) p.b (p.d+0) d') os):=
  ⟨rfl,rfl,rfl,by rw[size_grow];omega,λk hk=>by unfold grow;simp only;rw[Array.getElem?_append_left hk]⟩
 have hkeep:=sG r1 hbel;refine⟨_,rfl,.cx [],_,⟨rfl,d'.toList.map iQ,hperm,hsx,?_⟩,σ,V.lV,hkeep.1,r2.trans hkeep.2⟩
 have hfl2:((d'.toList.map iQ).map aw.av).flatten.length=(ts.map aw.av).flatten.length:=by rw[jP hw3,ac,hlen2,hfl]
 have hone:((d'.toList.map iQ).map aw.av).flatten.all ki=true:=by
  rw[List.all_eq_true];intro x hx;rw[List.mem_flatten] at hx;obtain⟨r,hr1,hr2⟩:=hx;obtain⟨k,_,rfl⟩:=mem_map.1 hr1;unfold aw.av at hr2;simp only[bb,dt,or_false] at hr2
  rcases hr2 with rfl | rfl | rfl<;>rfl
 unfold H.store;rw[ho];simp only;rw[hfl2,Nat.zero_add,fc (al _),hone,Bool.and_self,aq,take_zero,nil_append,List.drop_of_length_le (al _),b8]
def Ds:∀l:List aw,iY (l.flatMap ai)=some (l.map aw.av).flatten
 | []=>rfl
 | a::l=>by
  show iY (ab a.kind::ah a.part::ah a.name::l.flatMap ai)=_;rw[iY,iY,iY,Ds l];rfl
def xW:∀l:List aw,(l.flatMap ai).all eP=true
 | []=>rfl
 | a::l=>by rw[List.flatMap_cons,List.all_append,xW l];rfl
def wy{l ks:List aw}(hp:ks.Perm l)(hn:l.Nodup)(hs:ks.Pairwise λa b=>sd b a=false):ks=gm l:=by
 have h1:=rU hn;have hk:ks.Nodup:=hp.nodup_iff.2 hn
 have h2:ks.Pairwise λa b=>sd a b=true:=by
  refine List.Pairwise.imp₂ ?_ hs hk;intro a b h e
  rcases xQ a b with k | k | k
  ·exact k
  ·exact un k e
  ·rw[h] at k;cases k
 exact Perm.eq_of_pairwise (λa b _ _ h3 h4=>by have:=kI h3 h4;rw[tS] at this;cases this) h2 h1 (hp.trans (fV l).symm)
def iA(f:aw):(ai f).length=3:=rfl
def bQ(f:aw):cj (ai f)=true:=rfl
def Hy(l:List aw)(hlen:l.length<=1000000)(hne:l≠[])(hn:l.Nodup):SC prog 156 [.buf 0 l.length 3 none,.fn 76 [] []] [.cells (l.flatMap ai)] [] (λr S'=>r=.cx []/\S'=[.cells ((gm l).flatMap ai)]):=by
 refine SC.row (by rw[aU iA,aU iA,(fV l).length_eq]) (λθ ρ xs hx=>mw hx (xW _)) ?_;intro E θ ρ h avs asx bX hl hR hA ho hV _;have has:=oL hV (Ds l);subst has;rw[aK] at hA;obtain⟨a,r,rfl,hA1,hA⟩:=hA;rw[aK] at hA;obtain⟨b,r,rfl,hA2,hA⟩:=hA;rw[aZ] at hA;subst hA;rw[VS] at hA1;rw[VS] at hA2;subst hA1;obtain⟨xs,ys,rfl,hxs,hys⟩:=hA2;rw[aZ] at hxs;subst hxs;rw[aZ] at hys;subst hys;refine(Hw l _ _ h ho hne hlen).mono ?_;rintro v h' ⟨rfl,ts',hp,hs,hst⟩;have:=wy hp hn hs;subst this;refine⟨by rw[VS];exact⟨[],rfl,by rw[aZ]⟩,_,?_,hst⟩;exact tL (Ds _)
def EM(h:Ev.H):ee prog (.func 156) [.slice none 0 0 (some 0),.fn (.func 76) [] []] h (λr h'=>r=.cx []/\h'=h):=by
 intro σ w args' hv hr;obtain⟨x,y,rfl,hx,hy⟩:=Fb hv;rw[eg dx func156 ii]
 cases hx with
 | ig hl=>
  refine Calls.mono (Hv _ _ y w) ?_;rintro e w' ⟨rfl,rfl⟩;exact⟨_,rfl,.cx [],h,⟨rfl,rfl⟩,σ,V.lV,hr,Ext.refl _ _ _⟩
def Hx:PC prog 156 [bH,.fn 76 [] []] (·=.a (.cx [])):=by
 intro ρ h avs _ hA;rw[dT] at hA;obtain⟨a,r,rfl,hA1,hA⟩:=hA;rw[dT] at hA;obtain⟨b,r,rfl,hA2,hA⟩:=hA;rw[eY] at hA;subst hA;rw[GS] at hA1;subst hA1;rw[GS] at hA2;obtain⟨xs,ys,rfl,hxs,hys⟩:=hA2;rw[eY] at hxs;subst hxs;rw[eY] at hys;subst hys;refine(EM h).mono ?_;rintro v h' ⟨rfl,rfl⟩;exact⟨_,ρ,rfl,.refl _ _,λid ob hi=>.inl hi,by rw[GS]⟩
def cU(f:aw):AV:=.agg f.av
def aw.eq(a b:aw):fY eG a.av b.av=decide (a=b):=by
 obtain⟨a1,a2,a3⟩:=a;obtain⟨b1,b2,b3⟩:=b;simp only[aw.av,fY,eG,A0,sI,lH,cc,dc,aw.mk.injEq,em]
def Hg:Keys prog 65 cU:=
 vw (ks:=[.i .i64,.s,.s]) zW (by simp only[aF,m6]) (λ_=>rfl) aw.eq λ_=>rfl
def JF{S:List SO}{o:Nat}{l:List (aw×Bool)}(n:Int)(a b:List Nat)(u:Bool)(hS:S[o]?=some (bG cU an l)):iF prog S 99 (.map o) (.ag [ab n,ah a,ah b]) (.a (.bool u))=some (S.set o (bG cU an (cC (⟨n,a,b⟩:aw) u l))):=
 IW (uv:=an) (k:=(⟨n,a,b⟩:aw)) (kt:=65) (et:=4) (by simp only[aF]) Hg hS rfl u
def bg{n:Nat}{l:List (aw×Bool)}:bW n (bG cU an l)=bG cU an l:=mD λ_=>ml _
def RE(f:aw):uC (cU f)=.ag [ab f.kind,ah f.part,ah f.name]:=rfl
def jE(l:List aw):SO:=if l=[] then .gone else .cells (l.flatMap ai)
def IU{l:List aw}(h:¬l=[]):jE l=.cells (l.flatMap ai):=v6 h
def Gz:jE []=.gone:=rfl
def uj(r:Nat->Nat)(l:List aw):qa r (jE l)=jE l:=by
 unfold jE;split
 ·rfl
 ·rw[KS];congr 1;exact bl (aC bQ l)
def rL(o:Nat)(l:List aw):bW o (jE l)=jE l:=by
 unfold jE;split
 ·rfl
 ·rw[bW];congr 1;exact bV (aC bQ l)
def tm(B:Nat)(l:List aw):mK B (jE l)=true:=by
 unfold jE;split
 ·rfl
 ·rw[mK];exact bM (aC bQ l)
def Jx(L:List (aw×Bool)):PC prog 75 [mc cU an L] (·=.fn 157 [] [.ip [mc cU an L]]):=by
 refine pB 4 Tryz.func75 ?_;refine(zV) ?_;refine zZ [(1,.ip [mc cU an L])] 0 rfl (gE @ao.eq_1) ?_
 (try change aE _ _ _ _ _)
 exact(zV)<|zo [.tmp 2]
def gZ(lc:jI):SO:=.loop lc .ready none [(2,.ptr 1 0)]
def za(o:Nat)(lc:jI)(h:¬1=o):bW o (gZ lc)=gZ lc:=by
 simp[gZ,bW,dB,aP,Ev.names,h]
def tc(lc:jI):Prop:=(prog.funcs[(237:Nat)]?.bind λfn=>fn.body.bind vi)=some (lc.a,lc.b)
def Hj(L:List (aw×Bool))(lc:jI)(hcd:tc lc)(hln:lc.n=13)(hlp:lc.ps=#[7])(hlen:L.length<=100000)(hnd:(L.map (·.1)).Nodup):
 SC prog 157 [.a (.fn (.yield lc.id) [] []),.ip [mc cU an L]] [gZ lc,.cells [bH],.gone] [2] (λr S'=>r=.cx []/\∃out:List aw,out.Perm (L.map (·.1))/\S'=[gZ lc,.cells [bY 2 3 out.length],jE out]):=by
 refine UX 14 func157 ?_;have hk3:=za 3 lc g9;have hk4:=za 4 lc g9;have hn4:=λn=>cE (p:=4) (o:=2) (e:=3) (n:=n) g9;refine(zC) ?_;refine aN.UT (ks:=L.map λe=>cU e.1) (vs:=L.map λe=>an e.2) ii rfl rfl ii rfl (by simp only[aF]) ?_;intro bs c hbs;refine aN.r0 ii (by simp only[cY,bP,ao,aF,m7,m6,↓reduceIte,af,aj,ay,ad,ap,aq,aA,bD,↓hk3];first | done | rfl) ?_
 (repeat refine aE.seq ?_)
 refine aE.block (aE.loop (λm st=>∃pos:List Nat,pos.Nodup/\(∀j∈pos,j<L.length)/\L.length-pos.length=m/\st=⟨[(0,.a (.fn (.yield lc.id) [] [])),(5,.ptr 3 0),(1000000,.ptr 0 0),(1000001,.ptr 1 0)],14,[gZ lc,.cells [bY 2 3 (bj L pos).length],jE ((bj L pos).map (·.1)),.oR (L.map λe=>cU e.1) (L.map λe=>an e.2) bs c pos],[]⟩) L.length (cg (vc @bj.eq_1 @List.filterMap_nil.{0,0} @map_nil.{0,0} @i5.{0} @jW @Gz)) ⟨[],aS,λj hj=>by simp at hj,rfl,rfl⟩ (by rintro m st ⟨pos,_,_,_,rfl⟩;rfl) ?_);rintro m st ⟨pos,hpn,hpl,rfl,rfl⟩;refine aE.post ?_;refine(zC) ?_;refine aN.UR ii rfl rfl ii rfl rfl (λj hj=>by rw[ac];exact hpl j hj) ?_ ?_
 ·intro hall
  refine(zR)<|(fo) ?_;refine⟨⟨[(1000000,.ptr 0 0),(1000001,.ptr 1 0)],14,[gZ lc,.cells [bY 2 3 (bj L pos).length],jE ((bj L pos).map (·.1))],[]⟩,zH,?_⟩
  simp only[ea,cz,bI,bx,if_true];exact zP [] (hq:=by (try simp only[eC,bK]);first | done | (exact⟨trivial,(bj L pos).map (·.1),(mT hpn hpl (λj hj=>hall j (by rw[ac];exact hj))).map _,by rw[ac]⟩))
 ·intro j hj hjn;rw[ac] at hj;obtain⟨e,he⟩:∃e,L[j]?=some e:=⟨L[j],jp hj⟩;obtain⟨q1,q2,q3⟩:=qW hpn hpl hj hjn;have hsn:=lq L pos he
  refine(zR)<|(fw)<|(zC) ?_;refine aN.UL (k:=cU e.1) (v:=an e.2) ii rfl rfl ii rfl rfl (by rw[ax,he];rfl) (by rw[ax,he];rfl) ?_;refine aN.r0 ii (by simp only[cY,bP,ao,aF,m7,m6,↓reduceIte,af,aj,ay,ad,ap,aq,aA,bD,RE,↓hk4,hn4,rL];first | done | rfl) ?_;refine(eQ @ai.eq_1) ?_;refine oA [(10,.a (.fn (.yield lc.id) [] [])),(11,.ag (ai e.1)),(0,.a (.fn (.yield lc.id) [] [])),(5,.ptr 3 0),(1000000,.ptr 0 0),(1000001,.ptr 1 0)] [gZ lc,.cells [bY 2 3 (bj L pos).length],jE ((bj L pos).map (·.1)),.oR (L.map λe=>cU e.1) (L.map λe=>an e.2) bs c (pos++[j])] (Fg.less (by (simp only[cY,bP,fU,↓reduceIte,af,ai,↓hk4,hn4,rL])<;>(repeat' apply cn)<;>first | rfl | trivial) (by (simp only[cY,bP,or_true,true_or,ai,↓hk4,hn4,rL])<;>(repeat' apply cn)<;>first | exact .inr rfl | exact .inl rfl | trivial)) ?_;refine aN.y (vs:=[.ag (ai e.1)]) (oo:=0) ii rfl rfl ii rfl rfl rfl ii rfl (by rw[hlp];rfl) (by rw[hln];rfl) (by rw[hln];decide) (by rw[hlp,hln];rfl) λro'=>?_
  have hcd2:=hcd;unfold tc at hcd2;rw[d9] at hcd2;have hcd3:=Option.some.inj (hcd2.symm.trans ii);obtain⟨ha,hbb⟩:=Prod.mk.inj hcd3;rw[ha,hlp,hln];have hhl:(bj L pos).length=((bj L pos).map (·.1)).length:=(ac _).symm;rw[hhl]
  have hol:((bj L pos).map (·.1)).length<=100000:=by rw[<-hhl];exact bc (b6 _ _) i4
  generalize hout:(bj L pos).map (·.1)=out at hol;change aE _ _ _ ⟨[(7,.ag (ai e.1)),(2,.ptr 1 0),(20000010,.a (.fn (.yield lc.id) [] [])),(20000011,.ag (ai e.1)),(20000000,.a (.fn (.yield lc.id) [] [])),(20000005,.ptr 3 0),(21000000,.ptr 0 0),(21000001,.ptr 1 0)],13,[gZ lc,.cells [bY 2 3 out.length],jE out,.oR (L.map λe=>cU e.1) (L.map λe=>an e.2) bs c (pos++[j])],[]⟩ _;refine(zs) ?_;refine aE.r0 ii (by simp only[cY,bP,ao,aF,m7,m6,↓reduceIte,af,aj,ay,ad,ap,aq,aA,bD,ai,↓hk4,hn4,rL];first | done | rfl) ?_;refine⟨rfl,0,none,[(2,.ptr 1 0)],rfl,?_⟩;rw[hbb];refine(zB) ?_;change aE _ _ _ ⟨_,13,[.loop lc .busy none [(2,.ptr 1 0)],.cells [bY 2 3 out.length],jE out,.oR (L.map λe=>cU e.1) (L.map λe=>an e.2) bs c (pos++[j]),.cells [ab e.1.kind,ah e.1.part,ah e.1.name]],[]⟩ _;by_cases ho:out=[]
  ·have hE1:bY 2 3 (bj L (pos++[j])).length=.buf 2 1 3 none:=by rw[hsn,li,hhl,hout,ho];rfl
   have hE2:jE ((bj L (pos++[j])).map (·.1))=.cells [ab e.1.kind,ah e.1.part,ah e.1.name]:=by rw[hsn,bh,hout,ho];rfl
   rw[ho,Gz,show bY 2 3 ([]:List aw).length=bH from rfl];refine(zV) ?_;refine⟨rfl,0,.busy,none,[(2,.ptr 1 0)],rfl,?_⟩;simp only[yB,laid,ad,bd,↓reduceIte]
   refine oA [(12,an true),(0,.a (.fn (.yield lc.id) [] [])),(5,.ptr 3 0),(1000000,.ptr 0 0),(1000001,.ptr 1 0)] [gZ lc,.cells [.buf 2 1 3 none],.cells [ab e.1.kind,ah e.1.part,ah e.1.name],.oR (L.map λe=>cU e.1) (L.map λe=>an e.2) bs c (pos++[j])] (Fg.rn (f':=[(12,an true),(0,.a (.fn (.yield lc.id) [] [])),(5,.ptr 3 0),(1000000,.ptr 0 0),(1000001,.ptr 1 0)]) (n:=14) (S':=[gZ lc,.cells [.buf 2 1 3 none],.cells [ab e.1.kind,ah e.1.part,ah e.1.name],.oR (L.map λe=>cU e.1) (L.map λe=>an e.2) bs c (pos++[j])]) [0,1,6,3] g9 rfl (MZ (kY @gZ.eq_1 @A5.eq_1 @A4.eq_1 @yE.eq_1 @yB.eq_1)) (M0 (kY @gZ.eq_1 @A5.eq_1 @A4.eq_1 @yE.eq_1 @yB.eq_1)))<|(zR)<|(zN) ?_;exact⟨⟨[(0,.a (.fn (.yield lc.id) [] [])),(5,.ptr 3 0),(1000000,.ptr 0 0),(1000001,.ptr 1 0)],14,[gZ lc,.cells [.buf 2 1 3 none],.cells [ab e.1.kind,ah e.1.part,ah e.1.name],.oR (L.map λe=>cU e.1) (L.map λe=>an e.2) bs c (pos++[j])],[]⟩,(cg @gZ.eq_1),L.length-(pos++[j]).length,_,by rw[li];simp only[i7,i5];omega,(cg (cJ @gZ.eq_1 hE1 hE2)),pos++[j],q1,q2,rfl,rfl⟩
  ·have hk1:¬out.length=0:=λh=>ho (t8 h)
   have hE1:bY 2 3 (bj L (pos++[j])).length=.buf 2 (out.length+1) 3 none:=by rw[hsn,li,hhl,hout];exact dQ ge
   have hE2:jE ((bj L (pos++[j])).map (·.1))=.cells ((out++[e.1]).flatMap ai):=by rw[hsn,bh,hout];exact IU ge
   have hcl3:=aU iA out;have hkc3:=λo=>bp bQ o out;have happ:=kr iA bQ 2 out e.1;rw[show ai e.1=[ab e.1.kind,ah e.1.part,ah e.1.name] from rfl] at happ;rw[IU ho,dQ hk1];refine(aB (kY hkc3 hcl3 (show out.length<=1000000 by omega) @al happ)) ?_;refine⟨rfl,0,.busy,none,[(2,.ptr 1 0)],rfl,?_⟩;simp only[yB,laid,ad,bd,↓reduceIte]
   refine oA [(12,an true),(0,.a (.fn (.yield lc.id) [] [])),(5,.ptr 3 0),(1000000,.ptr 0 0),(1000001,.ptr 1 0)] [gZ lc,.cells [.buf 2 (out.length+1) 3 none],.cells ((out++[e.1]).flatMap ai),.oR (L.map λe=>cU e.1) (L.map λe=>an e.2) bs c (pos++[j])] (cg (kY @gZ.eq_1 @yB.eq_1 @A5.eq_1 @A4.eq_1 @yE.eq_1))<|(zR)<|(zN) ?_;exact⟨⟨[(0,.a (.fn (.yield lc.id) [] [])),(5,.ptr 3 0),(1000000,.ptr 0 0),(1000001,.ptr 1 0)],14,[gZ lc,.cells [.buf 2 (out.length+1) 3 none],.cells ((out++[e.1]).flatMap ai),.oR (L.map λe=>cU e.1) (L.map λe=>an e.2) bs c (pos++[j])],[]⟩,(cg @gZ.eq_1),L.length-(pos++[j]).length,_,by rw[li];simp only[i7,i5];omega,(cg (cJ @gZ.eq_1 hE1 hE2)),pos++[j],q1,q2,rfl,rfl⟩
def D6(L:List (aw×Bool))(hlen:L.length<=100000)(hnd:(L.map (·.1)).Nodup):SC prog 237 [bH,.fn 157 [] [.ip [mc cU an L]]] [] [] (λr S'=>∃out:List aw,out.Perm (L.map (·.1))/\r=bY 0 3 out.length/\S'=[jE out,.gone]):=by
 refine SC.tn (n:=13) dx d9 rfl rfl g9 (W:=[]) rfl g9 ?_;refine(nD)<|zA [(2,.ptr 0 0),(6,.fn 157 [] [.ip [mc cU an L]])] [.cells [bH],.gone] zH<|(zB) ?_;refine aE.ud (f1:=[(2,.ptr 0 0)]) dx ii func157 ii UY ?_
 rintro N lc hid hn hps ha hb
 have hcd:tc lc:=by
  unfold tc;rw[d9,ha,hb];rfl
 have hsc:=Hj L lc hcd hn hps hlen hnd;refine⟨[3,0,1],_,_,_,_,hsc,?_,rfl,by decide,?_,?_⟩
 ·simp only[gA,bP,cY,ao,dB,aP,↓reduceIte,af,aj,bd,hid,List.map,ey,cons_append,nil_append]
  try rfl
 ·rintro(_ | _ | _ | i) so h
  ·cases h;exact⟨3,rfl,by rfl⟩
  ·cases h;exact⟨0,rfl,by rfl⟩
  ·cases h;exact⟨1,rfl,by rfl⟩
  ·cases h
 rintro r S' ⟨rfl,out,hp,rfl⟩
 have hbn:∀n:Nat,dD 3 (bY 2 3 n)=true:=λn=>by
  unfold bY;split
  ·exact gq rfl
  ·rfl
 have hrn3:∀(B n:Nat),qa (j8 [3,0,1] B) (.cells [bY 2 3 n])=.cells [bY 1 3 n]:=λB n=>by
  show SO.cells [fq _ _]=_;rw[dK];rfl
 refine⟨by simp only[gZ,CE,gA,bP,ao,aj,ap,decide_true,↓tm,↓hbn];first | done | rfl,3,.ready,none,[(2,.ptr 0 0)],by rfl,by decide,by rfl,?_⟩
 have hS2:(dP (eJ (eJ [SO.cells [bH],SO.gone] (SO.mA N)) (SO.loop lc .ready none [(2,.ptr 0 0)])) [3,0,1] [2] [gZ lc,.cells [bY 2 3 out.length],jE out]).set 3 .gone=[.cells [bY 1 3 out.length],jE out,.mA N,.gone]:=by
  simp only[dP,eJ,dh,de,gg,gK,i7,i5,List.map,ac,li,↓hrn3,↓uj];rfl
 rw[hS2];change aE _ _ _ ⟨[(2,.ptr 0 0)],13,[.cells [bY 1 3 out.length],jE out,.mA N,.gone],[{ fn:=none,Fe:=N,args:=[],cap:=[] }]⟩ _;refine(zV) ?_;refine zA [(4,bY 0 3 out.length)] [jE out,.mA N] (Fg.rn (f':=[(4,bY 0 3 out.length)]) (n:=13) (S':=[jE out,.mA N]) [1,2] g9 rfl (MZ (bm @dK @uj)) (M0 (bm @dK @uj))) ?_;refine aE.ret ?_
 (try simp only[ea,cz,bI,bx])
 exact⟨rfl,[(4,bY 0 3 out.length)],⟨rfl,trivial⟩,rfl,.inl ⟨rfl,1,rfl,⟨[bY 0 3 out.length],by rfl,out,hp,rfl,rfl⟩,a7 _,λi hi=>un hi (dv _)⟩⟩
def sy(L:List (aw×Bool))(hlen:L.length<=100000)(hnd:(L.map (·.1)).Nodup):SC prog 155 [.fn 157 [] [.ip [mc cU an L]]] [] [] (λr S'=>∃out:List aw,out.Perm (L.map (·.1))/\r=bY 0 3 out.length/\S'=[jE out,.gone]):=by
 refine Mv 5 Tryz.func155 ?_;refine(jC) ?_;refine aN.sc [] ii rfl rfl ii rfl zc (D6 L hlen hnd) (by simp only[gA,bP,ao];first | done | rfl) rfl g9 (λi so h=>by simp at h) ?_ ?_
 ·rintro r S' ⟨out,hp,rfl,rfl⟩;exact⟨fC 1 3 _,by simp only[CE,↓tm];first | done | rfl⟩
 ·rintro r S' ⟨out,hp,rfl,rfl⟩;have e1:fq (j8 [] ([]:List SO).length) (bY 0 3 out.length)=bY 0 3 out.length:=dK _ 0 3 _
  have e2:dP [] [] [] [jE out,.gone]=[jE out,.gone]:=by
   simp only[dP,de,gg,gK,i7,i5,List.map,↓uj];rfl
  rw[e1,e2]
  refine oA [(4,bY 0 3 out.length)] [jE out,.gone] zH<|(zR)<|(zE) ?_;exact zP [.tmp 2] (hq:=by (try simp only[eC,bK]);first | done | (exact⟨out,hp,rfl,rfl⟩))
def Ao{l out:List aw}(hp:out.Perm l)(hn:l.Nodup):gm out=gm l:=
 wy ((fV out).trans hp) hn ((rU (hp.nodup_iff.2 hn)).imp λ{a b} h=>by
  cases k:sd b a with
  | false=>rfl
  | true=>have:=kI h k;rw[tS] at this;cases this)
def BD:SC prog 74 [.fn 157 [] [.ip [mc cU an []]],.fn 76 [] []] [] [] (λr S'=>r=bH/\S'=[]):=by
 refine Mv 12 func74 ?_;refine(jC) ?_;refine aN.sc [] ii rfl rfl ii rfl zc (sy [] (a7 _) aS) (by simp only[gA,bP,ao];first | done | rfl) rfl g9 (λi so h=>by simp at h) ?_ ?_
 ·rintro r S' ⟨out,hp,rfl,rfl⟩;exact⟨fC 1 3 _,by simp only[CE,↓tm];first | done | rfl⟩
 ·rintro r S' ⟨out,hp,rfl,rfl⟩;obtain rfl:out=[]:=Perm.eq_nil hp
  refine oA [(7,bH),(1,.fn 76 [] [])] [] (cg (show fq (j8 [] ([]:List SO).length) (bY 0 3 ([]:List aw).length)=bH from rfl))<|(zR)<|(zC)<|(zK Hx)<|(zR)<|(zV)<|(zE) ?_;exact zP [.tmp 4]
def EO(L:List (aw×Bool))(hlen:L.length<=100000)(hnd:(L.map (·.1)).Nodup)(hne:L≠[]):SC prog 74 [.fn 157 [] [.ip [mc cU an L]],.fn 76 [] []] [] [] (λr S'=>r=.buf 0 L.length 3 none/\S'=[.cells ((gm (L.map (·.1))).flatMap ai)]):=by
 refine Mv 12 func74 ?_;refine(jC) ?_;refine aN.sc [] ii rfl rfl ii rfl zc (sy L hlen hnd) (by simp only[gA,bP,ao];first | done | rfl) rfl g9 (λi so h=>by simp at h) ?_ ?_
 ·rintro r S' ⟨out,hp,rfl,rfl⟩;exact⟨fC 1 3 _,by simp only[CE,↓tm];first | done | rfl⟩
 ·rintro r S' ⟨out,hp,rfl,rfl⟩;have e1:fq (j8 [] ([]:List SO).length) (bY 0 3 out.length)=bY 0 3 out.length:=dK _ 0 3 _
  have e2:dP [] [] [] [jE out,.gone]=[jE out,.gone]:=by
   simp only[dP,de,gg,gK,i7,i5,List.map,↓uj];rfl
  rw[e1,e2]
  have hol:out.length=L.length:=by rw[hp.length_eq,ac]
  have hon:out≠[]:=λe=>hne (t8 (by rw[<-hol,e];rfl));have hss:=Hy out i4 hon (hp.nodup_iff.2 hnd);rw[Ao hp hnd,hol] at hss;have hcs:∀(r:Nat->Nat) (q:List aw),mG r (q.flatMap ai)=q.flatMap ai:=λr q=>bl (aC bQ q);have hcb:∀(B:Nat) (q:List aw),iy B (q.flatMap ai)=true:=λB q=>bM (aC bQ q);have hck:∀(o:Nat) (q:List aw),(q.flatMap ai).map (aP o)=q.flatMap ai:=λo q=>bp bQ o q;rw[IU hon,hol,dQ (λh=>hne (t8 h))]
  refine oA [(7,.buf 0 L.length 3 none),(1,.fn 76 [] [])] [.cells (out.flatMap ai)] zH<|(zR)<|(zC) ?_;refine zS [0] (cJ hcs hcb hck) hss ?_;refine(zR)<|(zV)<|(zE) ?_;exact zP [.tmp 4]
def sB(L:List (aw×Bool))(hlen:L.length<=100000)(hnd:(L.map (·.1)).Nodup):PC prog 30 [mc cU an L] (·=ao 3 (gm (L.map (·.1))) ai):=by
 refine pB 6 Tryz.func30 ?_;refine(jC)<|(zK (Jx L) (hfl:=.inr zr)) ?_
 by_cases hn0:L=[]
 ·subst hn0
  refine zS [] trivial BD ?_;exact(zR)<|zo [.tmp 2] (r:=ao 3 ([]:List aw) ai) (hw:=.nil _)
 ·have hss:=EO L hlen hnd hn0;have hcs:∀(r:Nat->Nat) (q:List aw),mG r (q.flatMap ai)=q.flatMap ai:=λr q=>bl (aC bQ q);have hcb:∀(B:Nat) (q:List aw),iy B (q.flatMap ai)=true:=λB q=>bM (aC bQ q);have hck:∀(o:Nat) (q:List aw),(q.flatMap ai).map (aP o)=q.flatMap ai:=λo q=>bp bQ o q
  have hsl:(gm (L.map (·.1))).length=L.length:=by rw[(fV _).length_eq,ac]
  refine zS [] (cJ hcs hcb hck) hss ?_;exact(zR)<|zo [.tmp 2] (r:=.sl L.length 3 ((gm (L.map (·.1))).flatMap ai)) (hw:=.buf rfl (by rw[<-hsl,dU iA];exact cA.refl (aC bQ _)) (by rw[aU iA,hsl];exact al _)) (hq:=by rw[qf,hsl])
abbrev eH(m:List (aw×Bool))(L:List aw):List (aw×Bool):=L.foldl (λm f=>cC f true m) m
def vr(m:List (aw×Bool))(L:List aw)(f:aw):eH m (L++[f])=cC f true (eH m L):=by unfold eH;rw[List.foldl_append];rfl
def oQ(m:List (aw×Bool))(L K:List aw):eH m (L++K)=eH (eH m L) K:=by unfold eH;rw[List.foldl_append]
def iP(r:Nat->Nat)(m:List (aw×Bool)):qa r (bG cU an m)=bG cU an m:=by
 unfold bG;rw[qa,bl (pP (uv:=an) (λ_=>rfl) m)]
def eS(B:Nat)(m:List (aw×Bool)):mK B (bG cU an m)=true:=by
 unfold bG;rw[mK,bM (pP (uv:=an) (λ_=>rfl) m)]
def mH(m0:List (aw×Bool))(kind:Int)(part:List Nat)(names:List (List Nat))(hlen:names.length<=1000000):
 SC prog 29 [.map 0,ab kind,ah part,ao 1 names (aD ah)] [bG cU an m0] [] (λr S'=>r=.cx []/\S'=[bG cU an (eH m0 (names.map λn=>⟨kind,part,n⟩))]):=by
 refine Pu 22 Tryz.func29 ?_;refine(zV)<|(zs) ?_;refine zL names (λk=>True) (λk=>[(0,.map 0),(1,ab kind),(2,ah part),(10,ao 1 names (aD ah)),(11,ab names.length),(12,ab k),(1000000,.ptr 0 0)]) (λk=>[bG cU an (eH m0 ((names.take k).map λn=>⟨kind,part,n⟩))]) (cg (cJ @take_zero.{0} @map_nil.{0,0} @foldl_nil.{0,0})) zp ?_;intro k hk hall;refine zT names k ?_ ?_;rintro rfl;rotate_left;intro n hx hlt;rotate_left
 ·refine(fo) ?_;simp only[ea,cz,bI,bx,if_true];rw[bk];exact zP []
 refine(fw) ?_;obtain⟨M,hM⟩:∃M,M=eH m0 ((names.take k).map λn=>⟨kind,part,n⟩):=⟨_,rfl⟩
 have hnx:eH m0 ((names.take (k+1)).map λn=>⟨kind,part,n⟩)=cC ⟨kind,part,n⟩ true M:=by rw[cq hx,bh,bv,map_nil,vr,<-hM]
 rw[<-hM];clear hM
 refine(aB (cJ hlt (aL (e:=1) (enc:=aD ah) gc hx) @aD.eq_1))<|(zs) ?_;refine aE.r0 ii (by simp only[cY,bP,ao,aF,m7,m6,↓reduceIte,af,aj,ay,ad,ap,aq,aA,bD,JF (l:=M)];first | done | rfl) ?_;refine(aB (zi hlt hlen)) ?_;refine zX hlt (cg hnx) trivial
def Lz(l:List (List Nat)):(sg l).length<=l.length:=by
 have:∀n (l:List (List Nat)),l.length=n->(sg l).length<=l.length:=by
  intro n
  induction n with
  | zero=>intro l h;rw[t8 h];exact al _
  | succ n ih=>
   intro l h
   rcases List.eq_nil_or_concat l with rfl | ⟨a,x,rfl⟩
   ·exact al _
   ·have ha:a.length=n:=by simpa using h
    have:=ih a ha;rw[List.concat_eq_append,Ie];split<;>simp<;>omega
 exact this _ l rfl
structure sD (b:dS):Prop where
 fN:∀r∈b.rules,gB r.cond
 vL:∀r∈b.bF,gB r.cond
 NW:∀d∈b.dE,CQ d
 hold:∀h∈b.holds,h.members.length<=1000000/\h.back.length<=1000000
 lr:b.rules.length<=100
 lc:b.bF.length<=100
 ld:b.dE.length<=100
 lh:b.holds.length<=100
 ls:b.fi.length<=1000000
 lx:b.mO.length<=1000000
def eE(r:eR):cD r=[ah r.name,ah r.kind,ab r.cond.op,ah r.cond.name,ah r.cond.value,ab r.cond.n,ab r.cond.extra,.sl r.cond.kids.length 6 (r.cond.kids.flatMap aV)]:=by
 unfold cD;rw[cf]
def lk(r:eR):(cD r).length=8:=by rw[eE];rfl
def jz(b:dS)(ps:List ak)(day:Int)(p:ak)(r:eR):Bool:=decide (r.kind=p.kind)&&(!rC b.mO p.name r.name day&&!(decide (lK ps r.cond p.name day=2)))
def eM(ps:List ak)(day:Int)(p:ak)(r:eR):Bool:=decide (r.kind=p.kind)&&!(decide (lK ps r.cond p.name day=0))
def FE{m:List (aw×Bool)}{q:eR->Bool}{g:eR->aw}{l:List eR}{k:Nat}{r:eR}(h:l[k]?=some r):eH m (((l.take (k+1)).filter q).map g)=if q r=true then cC (g r) true (eH m (((l.take k).filter q).map g)) else eH m (((l.take k).filter q).map g):=by
 rw[cq h,c5,b7,filter_nil];split
 ·rw[bh,bv,map_nil,vr]
 ·rw[b8]
def z8(ds:List ei)(c:List aM)(l:List br)(part:List Nat)(day:Int):(ic ds c l part day).length<=ds.length:=by
 unfold ic Mx;refine bc (Lz _) ?_;rw[(qo _).length_eq,ac];refine bc (bt _ _) ?_;unfold tZ;split
 ·exact a7 _
 ·split
  ·exact a7 _
  ·exact b6 _ _
abbrev rh(c:List aM)(dmg:bu)(b:dS)(l:List br)(ps:List ak)(day:Int)(p:ak):Fm:=[(7,.ip (ae p)),(1,.ip (aJ b)),(2,.ip [ab day]),(3,.ip [ao 14 ps ae]),(4,.ptr 0 0),(5,.ip (ao 3 c ar::aG dmg)),(6,.ip [ao 14 l au]),(1000000,.ptr 0 0),(1000001,.ptr 1 0)]
def G0(c:List aM)(dmg:bu)(b:dS)(l:List br)(ps:List ak)(day:Int)(p:ak)(m0:List (aw×Bool))(hb:sD b)(hc:mI c)(hl:l.length<20)(hle:∀e∈l,lY e)(hps:ps.length<=100000)(hpr:∀p∈ps,p.props.length<=1000000):
 SC prog 31 [.ag (ae p),.ip (aJ b),.ip [ab day],.ip [ao 14 ps ae],.ptr 0 0,.ip (ao 3 c ar::aG dmg),.ip [ao 14 l au]] [.cells [.map 1],bG cU an m0] [] (λr S'=>r=.cx []/\S'=[.cells [.map 1],bG cU an (eH m0 (nz c b l ps day p))]):=by
 refine Ss 113 Tryz.func31 ?_;refine(zV) ?_;refine zZ (rh c dmg b l ps day p) 2 rfl (gE (bm @ao.eq_1 @ae.eq_1))<|zA (rh c dmg b l ps day p) [.cells [.map 1],bG cU an m0] (cg @bg)<|(aB @aJ.eq_1) ?_
 have hlr:b.rules.length<=1000000:=bc hb.lr g9;have hlc:b.bF.length<=1000000:=bc hb.lc g9;rw[show nz c b l ps day p=((b.rules.filter (jz b ps day p)).map λr=>⟨1,p.name,r.name⟩)++(((b.bF.filter (eM ps day p)).map λr=>⟨5,p.name,r.name⟩)++((ic b.dE c l p.name day).map (λn=>⟨3,p.name,n⟩)++(if ie c b.fi ps p.name day=true then [] else [⟨2,p.name,p.slot⟩]))) from rfl,oQ,oQ,oQ]
 refine zA ((13,ao 8 b.rules cD)::(14,ab b.rules.length)::(15,ab 0)::rh c dmg b l ps day p) [.cells [.map 1],bG cU an m0] zH<|(zs) ?_;refine zL b.rules (λk=>True) (λk=>(13,ao 8 b.rules cD)::(14,ab b.rules.length)::(15,ab k)::rh c dmg b l ps day p) (λk=>[.cells [.map 1],bG cU an (eH m0 (((b.rules.take k).filter (jz b ps day p)).map λr=>⟨1,p.name,r.name⟩))]) (cg (fk @take_zero.{0} @filter_nil.{0} @map_nil.{0,0} @foldl_nil.{0,0})) zp ?_;intro k hk hall;refine zT b.rules k ?_ ?_;rintro rfl;rotate_left;intro r hx hlt;rotate_left
 rotate_left
 ·obtain⟨M,hM⟩:∃M,M=eH m0 (((b.rules.take k).filter (jz b ps day p)).map λr=>⟨1,p.name,r.name⟩):=⟨_,rfl⟩;have hnx:=FE (m:=m0) (q:=jz b ps day p) (g:=λr=>⟨1,p.name,r.name⟩) hx;rw[<-hM] at hnx ⊢;clear hM;have hre:=eE r;have hh:=nZ ps r.cond p.name day hps hpr (hb.fN r (a6 hx));rw[cf] at hh;have hadd:=mH M 1 p.name [r.name] (by show 1<=1000000;decide);rw[show eH M ([r.name].map λn=>(⟨1,p.name,n⟩:aw))=cC ⟨1,p.name,r.name⟩ true M from rfl] at hadd
  refine(fw)<|(aB (fk hlt (aL (e:=8) (enc:=cD) lk hx) hre @bg))<|zA ((9,.ptr 2 0)::(13,ao 8 b.rules cD)::(14,ab b.rules.length)::(15,ab k)::rh c dmg b l ps day p) [.cells [.map 1],bG cU an M,.cells [ah r.name,ah r.kind,ab r.cond.op,ah r.cond.name,ah r.cond.value,ab r.cond.n,ab r.cond.extra,.sl r.cond.kids.length 6 (r.cond.kids.flatMap aV)]] (cg @bg) ?_
  cases g1:decide (r.kind=p.kind)
  ·rw[v6 (by unfold jz;rw[g1];simp)] at hnx
   refine(aB (bm g1 @ae.eq_1))<|(zN)<|(aB (zi hlt hlr)) ?_;refine zX hlt (cg hnx) trivial
  refine(eQ (cJ g1 @ae.eq_1 @aJ.eq_1))<|(zK (uG b.mO p.name r.name day hb.lx)) ?_
  cases g2:rC b.mO p.name r.name day;rotate_left
  ·rw[v6 (by unfold jz;rw[g2];simp)] at hnx
   refine(zR)<|(zN)<|(aB (zi hlt hlr)) ?_;refine zX hlt (cg hnx) trivial
  refine(MY @ae.eq_1)<|(zK hh) ?_
  cases g3:decide (lK ps r.cond p.name day=2);rotate_left
  ·rw[v6 (by unfold jz;rw[g3];simp)] at hnx
   refine(cM g3)<|(zN)<|(aB (zi hlt hlr)) ?_;refine zX hlt (cg hnx) trivial
  rw[ut (by unfold jz;rw[g1,g2,g3];rfl)] at hnx
  refine(cM g3)<|(zY)<|(eQ (bm @ae.eq_1 @bg)) ?_;refine oZ ((50,ao 1 [r.name] (aD ah))::(47,ah p.name)::(45,.map 1)::(13,ao 8 b.rules cD)::(14,ab b.rules.length)::(15,ab k)::rh c dmg b l ps day p) 3 rfl ⟨.inr (.buf rfl (cA.refl rfl) (al _)),zj⟩<|oA ((50,ao 1 [r.name] (aD ah))::(47,ah p.name)::(45,.map 1)::(13,ao 8 b.rules cD)::(14,ab b.rules.length)::(15,ab k)::rh c dmg b l ps day p) [.cells [.map 1],bG cU an M] (cg @bg) ?_;refine zS [1] (cJ @bg @iP @eS) hadd ?_;refine(zR)<|(aB (zi hlt hlr)) ?_;refine zX hlt (cg hnx) trivial
 refine(fo) ?_;simp only[ea,cz,bI,bx,if_true];rw[bk];generalize eH m0 ((b.rules.filter (jz b ps day p)).map λr=>⟨1,p.name,r.name⟩)=m1
 refine(aB @aJ.eq_1)<|zA ((54,ao 8 b.bF cD)::(55,ab b.bF.length)::(56,ab 0)::rh c dmg b l ps day p) [.cells [.map 1],bG cU an m1] zH<|(zs) ?_;refine zL b.bF (λk=>True) (λk=>(54,ao 8 b.bF cD)::(55,ab b.bF.length)::(56,ab k)::rh c dmg b l ps day p) (λk=>[.cells [.map 1],bG cU an (eH m1 (((b.bF.take k).filter (eM ps day p)).map λr=>⟨5,p.name,r.name⟩))]) (cg (fk @take_zero.{0} @filter_nil.{0} @map_nil.{0,0} @foldl_nil.{0,0})) zp ?_;intro k hk hall;refine zT b.bF k ?_ ?_;rintro rfl;rotate_left;intro r hx hlt;rotate_left
 rotate_left
 ·obtain⟨M,hM⟩:∃M,M=eH m1 (((b.bF.take k).filter (eM ps day p)).map λr=>⟨5,p.name,r.name⟩):=⟨_,rfl⟩;have hnx:=FE (m:=m1) (q:=eM ps day p) (g:=λr=>⟨5,p.name,r.name⟩) hx;rw[<-hM] at hnx ⊢;clear hM;have hre:=eE r;have hh:=nZ ps r.cond p.name day hps hpr (hb.vL r (a6 hx));rw[cf] at hh;have hadd:=mH M 5 p.name [r.name] (by show 1<=1000000;decide);rw[show eH M ([r.name].map λn=>(⟨5,p.name,n⟩:aw))=cC ⟨5,p.name,r.name⟩ true M from rfl] at hadd
  refine(fw)<|(aB (fk hlt (aL (e:=8) (enc:=cD) lk hx) hre @bg))<|zA ((11,.ptr 2 0)::(54,ao 8 b.bF cD)::(55,ab b.bF.length)::(56,ab k)::rh c dmg b l ps day p) [.cells [.map 1],bG cU an M,.cells [ah r.name,ah r.kind,ab r.cond.op,ah r.cond.name,ah r.cond.value,ab r.cond.n,ab r.cond.extra,.sl r.cond.kids.length 6 (r.cond.kids.flatMap aV)]] (cg @bg) ?_
  cases g1:decide (r.kind=p.kind)
  ·rw[v6 (by unfold eM;rw[g1];simp)] at hnx
   refine(aB (bm g1 @ae.eq_1))<|(zN)<|(aB (zi hlt hlc)) ?_;refine zX hlt (cg hnx) trivial
  refine(eQ (cJ g1 @ae.eq_1 @aJ.eq_1))<|(zK hh) ?_
  cases g3:decide (lK ps r.cond p.name day=0);rotate_left
  ·rw[v6 (by unfold eM;rw[g3];simp)] at hnx
   refine(cM g3)<|(zN)<|(aB (zi hlt hlc)) ?_;refine zX hlt (cg hnx) trivial
  rw[ut (by unfold eM;rw[g1,g3];rfl)] at hnx
  refine(cM g3)<|(zY)<|(eQ (bm @ae.eq_1 @bg)) ?_;refine oZ ((80,ao 1 [r.name] (aD ah))::(77,ah p.name)::(75,.map 1)::(54,ao 8 b.bF cD)::(55,ab b.bF.length)::(56,ab k)::rh c dmg b l ps day p) 3 rfl ⟨.inr (.buf rfl (cA.refl rfl) (al _)),zj⟩<|oA ((80,ao 1 [r.name] (aD ah))::(77,ah p.name)::(75,.map 1)::(54,ao 8 b.bF cD)::(55,ab b.bF.length)::(56,ab k)::rh c dmg b l ps day p) [.cells [.map 1],bG cU an M] (cg @bg) ?_;refine zS [1] (cJ @bg @iP @eS) hadd ?_;refine(zR)<|(aB (zi hlt hlc)) ?_;refine zX hlt (cg hnx) trivial
 refine(fo) ?_;simp only[ea,cz,bI,bx,if_true];rw[bk];generalize eH m1 ((b.bF.filter (eM ps day p)).map λr=>⟨5,p.name,r.name⟩)=m2;refine zA (rh c dmg b l ps day p) [.cells [.map 1],bG cU an m2] zH ?_;have hov:=AP b.dE c l p.name day hb.NW (bc hb.ld g9) hc hl hle;have hovl:(ic b.dE c l p.name day).length<=1000000:=bc (z8 _ _ _ _ _) (bc hb.ld g9);have hpm:=qt c b.fi ps p.name day hc hb.ls i4;generalize ic b.dE c l p.name day=ov at hov hovl ⊢;generalize ie c b.fi ps p.name day=pm at hpm ⊢;have hadd:=mH m2 3 p.name ov hovl;generalize eH m2 (ov.map λn=>⟨3,p.name,n⟩)=m3 at hadd ⊢;have hadd2:=mH m3 2 p.name [p.slot] (by show 1<=1000000;decide);rw[show eH m3 ([p.slot].map λn=>(⟨2,p.name,n⟩:aw))=eH m3 [⟨2,p.name,p.slot⟩] from rfl] at hadd2;refine(zs) ?_;refine kZ [0,0,2,0,8,0,32,0,0,256,0,2040,4095] ?_;refine(B7 (bm @ae.eq_1 @aJ.eq_1)) ?_;refine gF.kg ii rfl rfl ii rfl rfl zc hov (λS=>cA.refl rfl) rfl ?_;refine gF.Qh (f':=rh c dmg b l ps day p) (S':=[.cells [.map 1],bG cU an m3]) zW rfl (λds_ K_ hK_=>?_) ?_
 ·refine zS [1] (cJ @bg @iP @eS) hadd ?_;refine oA (rh c dmg b l ps day p) [.cells [.map 1],bG cU an m3] zH ?_;exact .nil hK_
 refine(kN)<|(eQ (bm @ae.eq_1 @aJ.eq_1))<|(zK hpm) ?_
 cases pm
 ·refine(zR)<|(zY)<|(eQ (bm @ae.eq_1 @bg)) ?_;refine oZ ((111,ao 1 [p.slot] (aD ah))::(108,ah p.name)::(106,.map 1)::rh c dmg b l ps day p) 2 rfl ⟨.inr (.buf rfl (cA.refl rfl) (al _)),zj⟩<|oA ((111,ao 1 [p.slot] (aD ah))::(108,ah p.name)::(106,.map 1)::rh c dmg b l ps day p) [.cells [.map 1],bG cU an m3] (cg @bg) ?_;refine zS [1] (cJ @bg @iP @eS) hadd2 ?_;refine(zR) ?_;exact zP []
 ·refine(zR)<|(zN) ?_;exact zP []
end Go.Proofs
