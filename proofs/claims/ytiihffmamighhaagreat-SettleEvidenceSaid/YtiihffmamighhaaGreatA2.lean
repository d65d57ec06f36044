/- Lemmas of this claim, each with its conditions. -/
import Derived.Test.YtiihffmamighhaaGreatA1
import Derived.OrdersIn
import Derived.Below
import Derived.Lib.Bytealg
import Derived.Deep.Slices
import Derived.Deep.Strs
import Derived.SizedLaws
set_option linter.all false
open Nat (beq ble blt lor)
open List (mem_range mem_map getD mapM set_nil)
open Array (ext')
open Int (ofNat)
open Array renaming getElem?_toList -> ac, getD_eq_getD_getElem? -> ba, toList_append -> b7, toList_map -> ca, getElem?_eq_none -> dk, replicate -> fx
open List renaming mem_cons_of_mem -> ad, getElem?_cons_succ -> aj, mem_cons_self -> ap, getElem?_append_right -> ay, getElem?_append_left -> aO, getElem?_eq_none -> a9, getElem?_cons_zero -> bb, flatten_cons -> bc, length_map -> bd, getElem?_map -> bh, range -> bi, map_cons -> bt, getD_eq_getElem?_getD -> bw, any_cons -> bZ, take_succ_cons -> b5, getElem?_set_self -> b8, take_of_length_le -> b9, length_range -> cb, getElem?_append -> cc, getElem?_set_ne -> cd, filter_cons -> ci, map_nil -> cj, set_cons_succ -> cX, set_cons_zero -> c2, mapM_cons -> c3, take_zero -> c4, drop_nil -> d3, mem_append_right -> d4, take_nil -> d5, mem_append_left -> d8, drop_zero -> ei, zip_cons_cons -> em, ext_getElem -> eB, flatten_nil -> eF, not_mem_nil -> e6, range'_succ -> fb, append_nil -> fo, foldl_cons -> fu, drop_drop -> fy
open Nat renaming le_refl -> ax, lt_of_lt_of_le -> bk, zero_le -> bo, le_trans -> bv, add_sub_cancel_left -> bI, lt_irrefl -> cf, sub_self -> cl, sub_zero -> co, succ_mul -> cv, lt_succ_self -> dc, zero_add -> d6, eq_zero_or_pos -> d9, le_succ_of_le -> en, add_zero -> ey, add_assoc -> f3, beq_refl -> f8
open Bool renaming false_eq_true -> be, or_eq_false_iff -> bx, and_eq_true -> b6, or_eq_true -> d7, or_assoc -> er, and_self -> f6
open Option renaming getD_some -> ej
namespace Go.Ev
def ZC(σ:Sg)(r:Option AV)(x:Next):Prop:=match r with
 | some a=>∃v,x=.value v/\V σ a v
 | none=>x=.skip
def Ad(P:Program)(σ:Sg)(h h':H)(w:World)(r:Option AV)(s:Sem Next):Prop:=
 ∃σ' x w',s.run P w=.ok x w'/\ZC σ' r x/\HR σ' h' w'/\Ext σ σ' h h' w w'
def Ad.pure{P:Program}{σ:Sg}{h:H}{w:World}(hr:HR σ h w){a:AV}{s:Sem Value}(hs:∃z,s.run P w=.ok z w/\V σ a z):Ad P σ h h w (some a) (do Pure.pure (Next.value (<-s))):=by
 obtain⟨z,h1,h2⟩:=hs;exact⟨σ,.value z,w,by simp only[n5,h1,n7,m9],⟨z,rfl,h2⟩,hr,.refl _ _ _⟩
def Ad.yield{P:Program}{σ:Sg}{h h':H}{w:World}{a:AV}{s:Sem Value}(hs:Yields P σ h h' w a s):Ad P σ h h' w (some a) (do Pure.pure (Next.value (<-s))):=by
 obtain⟨σ',z,w',h1,h2,h3,h4⟩:=hs;exact⟨σ',.value z,w',by simp only[n5,h1,n7,m9],⟨z,rfl,h2⟩,h3,h4⟩
variable{P:Program}{σ:Sg}{h:H}{h':H}
def Ad.unit{w:World}{s:Sem Unit}(hs:∃w',s.run P w=.ok () w'/\HR σ h' w'/\Ext σ σ h h' w w'):Ad P σ h h' w none (do s;Pure.pure Next.skip):=by
 obtain⟨w',h1,h2,h3⟩:=hs;exact⟨σ,.skip,w',by simp only[n5,h1,n7,m9],rfl,h2,h3⟩
variable{α:Type}{r:Option α}
def PD{β:Type}{f:α->β}{outs:List β}(h:r.map (λx=>[f x])=some outs):∃a,r=some a/\outs=[f a]:=by
 cases r with
 | none=>simp at h
 | some a=>simp at h;exact⟨a,rfl,h.symm⟩
def nQ{β:Type}{f:α->Option β}{y:β}(h:r.bind f=some y):∃a,r=some a/\f a=some y:=by
 cases r with
 | none=>simp at h
 | some a=>exact⟨a,rfl,h⟩
def aq{β:Type}{f:α->β}{y:β}(h:r.map f=some y):∃a,r=some a/\f a=y:=by
 cases r with
 | none=>simp at h
 | some a=>simp at h;exact⟨a,rfl,h⟩
variable{ρ:Operand->Value}{id:Nat}
def KX{w:World}{t:Tr AV}(hρ:∀x a,ev t x=some a->V σ a (ρ x))(hr:HR σ h w){o:Oper}{a:AV}{ob:AO}(hl:qO P t o.op id=some (a,ob))
 (hid:σ id=none) (hlt:id<h.next) (hlow:h.low<=id) (hf:∀j cs,h.aV.get j≠some (.cells cs id)):
 ∃σ' v w',(execOp ρ o).run P w=.ok (.value v) w'/\V σ' a v/\HR σ' (h.lay id ob) w'/\Ext σ σ' { h with next:=id } (h.lay id ob) w w'/\(∃q,w.heap.size<=q.b/\σ'=up σ id q):=by
 have row:∀(aS:List AV) (c:Array Value) (e:TypeId) (v:Value),ob=.cells aS id->VL σ aS c.toList->(execOp ρ o).run P w=.ok (.value v) { w with heap:=w.heap.push (.cells c e (0,0)) }->
  (∀σ':Sg,σ' id=some ⟨w.heap.size,0,c.size⟩->V σ' a v)->∃σ' v w',(execOp ρ o).run P w=.ok (.value v) w'/\V σ' a v/\HR σ' (h.lay id ob) w'/\Ext σ σ' { h with next:=id } (h.lay id ob) w w'/\(∃q,w.heap.size<=q.b/\σ'=up σ id q):=by
  intro aS c e v e1 hvl hrun hV;subst e1
  obtain⟨k1,k2⟩:=hr.lay (r:=c.size) (o:=.cells aS id) (ob:=.cells c e (0,0)) (w':={ w with heap:=w.heap.push (.cells c e (0,0)) }) hid hlt hlow hf (λcs f hh=>by cases hh;rfl)
   (KU (hvl.mono (oD hid)) (b9 (ax _))) rfl rfl rfl rfl
  exact⟨_,v,_,hrun,hV _ (eX _ _ _),k1,k2,_,ax _,rfl⟩
 have mp:ob=.map [] 0->a=.map (some id)->(execOp ρ o).run P w=.ok (.value (.map (some w.heap.size))) { w with heap:=w.heap.push (.map #[] 0) }->
  ∃σ' v w',(execOp ρ o).run P w=.ok (.value v) w'/\V σ' a v/\HR σ' (h.lay id ob) w'/\Ext σ σ' { h with next:=id } (h.lay id ob) w w'/\(∃q,w.heap.size<=q.b/\σ'=up σ id q):=by
  intro e1 e2 hrun;subst e1;subst e2
  obtain⟨k1,k2⟩:=hr.lay (r:=0) (o:=.map [] 0) (ob:=.map #[] 0) (w':={ w with heap:=w.heap.push (.map #[] 0) }) hid hlt hlow hf (λcs f hh=>by cases hh)
   ⟨#[],rfl,rfl,λi e m he _=>by simp at he⟩ rfl rfl rfl rfl
  exact⟨_,_,_,hrun,.map (p:=⟨w.heap.size,0,0⟩) (eX _ _ _),k1,k2,_,ax _,rfl⟩
 unfold qO at hl;split at hl
 ·rename_i e ho;obtain⟨z,hz,he⟩:=aq hl;simp only[m8] at he;obtain⟨rfl,rfl⟩:=he;obtain⟨zv,hzr,hzV,_⟩:=ju (w:=w) (σ:=σ) hz;refine row _ zv.cells e _ rfl hzV.cells ?_ (λσ' hs=>.ptr (p:=⟨w.heap.size,0,zv.cells.size⟩) hs);simp only[execOp,ho,Instr.alloc,n5,hzr,n7,newVar,newRow,run_newObj,m9]
 ·rename_i e x ho;obtain⟨y,hy,he⟩:=aq hl;simp only[m8] at he;obtain⟨rfl,rfl⟩:=he;have hV:=hρ _ _ hy;refine row _ (ρ x).cells e _ rfl hV.cells ?_ (λσ' hs=>.ptr (p:=⟨w.heap.size,0,(ρ x).cells.size⟩) hs);simp only[execOp,ho,Instr.box,n5,n7,newVar,newRow,run_newObj,m9]
 ·rename_i tt n ps ho;obtain⟨qs,hq,hl⟩:=nQ hl;obtain⟨⟨s,cs⟩,hb,he⟩:=aq hl;simp only[m8] at he;obtain⟨rfl,rfl⟩:=he;have hpr:=yb hρ ps.toList qs hq
  have hpr':PL σ qs (ps.map λ(i,x)=>(i,ρ x)).toList:=by simpa using hpr
  obtain⟨c,e,g1,g2,g3⟩:=Ae (w:=w) hb hpr';refine row _ c e _ rfl g2 ?_ (λσ' hs=>.slice (p:=⟨w.heap.size,0,c.size⟩) hs (ax _) (by have:=g2.1;simp at this;simp only;omega) (λx hx=>by simpa using hx.symm) (.inl rfl));simp only[execOp,ho,n5,g1,n7,m9]
 ·rename_i tt r ho;split at hl
  ·simp only[n8,m8] at hl;obtain⟨rfl,rfl⟩:=hl;refine mp rfl rfl ?_;simp only[execOp,ho,Option.map_none,Instr.makeMap,n5,m9,n7,run_newObj]
  ·rename_i x;split at hl
   ·rename_i k n q hx hm;simp only[n8,m8] at hl;obtain⟨rfl,rfl⟩:=hl;obtain⟨kt,et⟩:=q;refine mp rfl rfl ?_;have hV:=hρ _ _ hx;generalize hg:ρ x=v at hV;cases hV;simp only[execOp,ho,m6,hg,Instr.makeMap,n5,aQ (mG hm),asInt,asIntOf,m9,n7,run_newObj]
   ·simp at hl
 ·rename_i tt l c ho;obtain⟨l',hl',hl⟩:=nQ hl;obtain⟨c',hc',hl⟩:=nQ hl;obtain⟨⟨n,s,m,cs⟩,hb,he⟩:=aq hl;simp only[m8] at he;obtain⟨rfl,rfl⟩:=he;obtain⟨arr,e,g1,g2,g3,g4⟩:=B1 (w:=w) hb (hρ _ _ hl') (hρ _ _ hc');refine row _ arr e _ rfl g2 ?_ (λσ' hs=>.slice (p:=⟨w.heap.size,0,arr.size⟩) hs g3 (by have:=g2.1;simp at this;simp only;omega) (λx hx=>by simpa using hx.symm) (.inl rfl));simp only[execOp,ho,n5,g1,n7,m9]
 ·simp at hl
variable{aS:List AV}{args:Array Value}
def FM{w:World}(hr:HR σ h w){b:Builtin}{ats:Array TypeId}{T:TypeId}{cn:Array Bool}{r:AV}(hl:nS P h b ats.toList aS=some (r,h'))
 (hv:VL σ aS args.toList):Ad P σ h h' w (some r) (builtin b ats T cn args):=by
 have at0:∀{t:TypeId} {l:List TypeId},ats.toList=t::l->ats[0]?=some t:=λe=>by rw[<-ac,e];rfl
 have at1:∀{t s:TypeId} {l:List TypeId},ats.toList=t::s::l->ats[1]?=some s:=λe=>by rw[<-ac,e];rfl
 have ar0:∀{v:Value} {l:List Value},args.toList=v::l->args[0]?=some v:=λe=>by rw[<-ac,e];rfl
 have ar1:∀{v u:Value} {l:List Value},args.toList=v::u::l->args[1]?=some u:=λe=>by rw[<-ac,e];rfl
 unfold nS at hl;split at hl
 ·rename_i st xt _ x y hats;obtain⟨v,l,e1,hV,hl1⟩:=hv.dP;obtain⟨u,l2,e2,hU,_⟩:=hl1.dP;subst e2;exact .yield (HT hr hl (at0 hats) (at1 hats) (ar0 e1) (ar1 e1) hV hU)
 ·rename_i t _ x _ hats;obtain⟨v,l,e1,hV,_⟩:=hv.dP;obtain⟨q,hq,he⟩:=aq hl;simp only[m8] at he;obtain⟨rfl,rfl⟩:=he;exact .pure hr (R6 hr hq (at0 hats) (ar0 e1) hV)
 ·rename_i t _ o n es c hats;obtain⟨v,l,e1,hV,_⟩:=hv.dP;split at hl
  ·rename_i e hu;simp only[n8,m8] at hl;obtain⟨rfl,rfl⟩:=hl;have a0:=ar0 e1;refine .pure hr ⟨goInt c,?_,.int _ _⟩
   cases hV with
   | jd h0=>simp only[Builtin.cap_,at0 hats,a0,n5,aQ hu,n7,m9]
   | slice hp hl hroom hcap haddr=>
    have:=hcap c rfl;subst this;simp only[Builtin.cap_,at0 hats,a0,n5,aQ hu,n7,m9]
  ·simp at hl
 ·rename_i dt _ x y _ hats;obtain⟨v,l,e1,hV,hl1⟩:=hv.dP;obtain⟨u,l2,e2,hU,_⟩:=hl1.dP;subst e2;exact .yield (O6 hr hl (at0 hats) (ar0 e1) (ar1 e1) hV hU)
 ·rename_i x l;obtain⟨v,us,e1,hV,hus⟩:=hv.dP;obtain⟨q,hq,he⟩:=aq hl;simp only[m8] at he;obtain⟨rfl,rfl⟩:=he;obtain⟨z,hz,hZ⟩:=sn (P:=P) (w:=w) false l x q v us hq hV hus;exact .pure hr ⟨z,by simp only[Builtin.min_,e1];exact hz,hZ⟩
 ·rename_i x l;obtain⟨v,us,e1,hV,hus⟩:=hv.dP;obtain⟨q,hq,he⟩:=aq hl;simp only[m8] at he;obtain⟨rfl,rfl⟩:=he;obtain⟨z,hz,hZ⟩:=sn (P:=P) (w:=w) true l x q v us hq hV hus;exact .pure hr ⟨z,by simp only[Builtin.max_,e1];exact hz,hZ⟩
 ·rename_i t _ x k _ hats;obtain⟨v,l,e1,hV,hl1⟩:=hv.dP;obtain⟨u,l2,e2,hU,_⟩:=hl1.dP;subst e2;exact .yield (Ic hr hl (at0 hats) (ar0 e1) (ar1 e1) hV hU)
 ·rename_i t _ x _ hats;obtain⟨v,l,e1,hV,_⟩:=hv.dP;exact .yield (K7 hr hl (at0 hats) (ar0 e1) hV)
 ·simp at hl
variable{outs:List (Option AV×H)}
def U3{w:World}{t:Tr AV}(hρ:∀x a,ev t x=some a->V σ a (ρ x))(hr:HR σ h w){o:Oper}(hl:eS P t h o.op=some outs):
 ∃r h',(r,h')∈outs/\Ad P σ h h' w r (execOp ρ o):=by
 have pv:∀(q:Option AV) (s:Sem Value),q.map (λx=>[(some x,h)])=some outs->(∀a,q=some a->∃z,s.run P w=.ok z w/\V σ a z)->execOp ρ o=(do Pure.pure (Next.value (<-s)))->∃r h',(r,h')∈outs/\Ad P σ h h' w r (execOp ρ o):=by
  intro q s hq hs he;obtain⟨a,ha,rfl⟩:=PD hq;exact⟨_,_,qr rfl,he▸.pure hr (hs a ha)⟩
 have pvh:∀(q:Option (AV×H)) (s:Sem Value),q.map (λx=>[(some x.1,x.2)])=some outs->(∀a h',q=some (a,h')->Yields P σ h h' w a s)->execOp ρ o=(do Pure.pure (Next.value (<-s)))->∃r h',(r,h')∈outs/\Ad P σ h h' w r (execOp ρ o):=by
  intro q s hq hs he;obtain⟨⟨a,h'⟩,ha,rfl⟩:=PD hq;exact⟨_,_,qr rfl,he▸.yield (hs a h' ha)⟩
 have pu:∀(q:Option H) (s:Sem Unit),q.map (λx=>[((none:Option AV),x)])=some outs->(∀h',q=some h'->∃w',s.run P w=.ok () w'/\HR σ h' w'/\Ext σ σ h h' w w')->execOp ρ o=(do s;Pure.pure Next.skip)->∃r h',(r,h')∈outs/\Ad P σ h h' w r (execOp ρ o):=by
  intro q s hq hs he;obtain⟨h',ha,rfl⟩:=PD hq;exact⟨_,_,qr rfl,he▸.unit (hs h' ha)⟩
 have al:∀q:Option (AV×H),q.map (λx=>[(some x.1,x.2)])=some outs->q=(qO P t o.op h.next).map (λ(v,ob)=>(v,({ h.lay h.next ob with next:=h.next+1 }:H)))->∃r h',(r,h')∈outs/\Ad P σ h h' w r (execOp ρ o):=by
  intro q hq he;obtain⟨⟨a,h'⟩,ha,rfl⟩:=PD hq;rw[he] at ha;obtain⟨⟨v,ob⟩,hv,hx⟩:=aq ha;simp only[m8] at hx;obtain⟨rfl,rfl⟩:=hx;obtain⟨σ',z,w',k1,k2,k3,k4,_⟩:=KX hρ (hr.more (h.next+1) gt) (id:=h.next) hv (hr.fresh _ (ax _)) f5 hr.B0 (λj cs hj=>by have:=(hr.bX j cs _ hj).1;omega);rw[<-II] at k3 k4;exact⟨_,_,qr rfl,σ',.value z,w',k1,⟨z,rfl,k2⟩,k3,k4.more gt⟩
 have mO:∀{α β:Type} {q:Option α} {f:α->Option β} {y:β},q.bind f=some y->∃a,q=some a/\f a=some y:=λh=>nQ h
 cases ho:o.op with
 | move x=>
  rw[ho] at hl;simp only[eS] at hl;exact pv _ (Pure.pure (ρ x)) hl (λa ha=>⟨_,rfl,hρ _ _ ha⟩) (by simp only[execOp,ho];rfl)
 | assign x=>
  rw[ho] at hl;simp only[eS] at hl;exact pv _ (Pure.pure (ρ x)) hl (λa ha=>⟨_,rfl,hρ _ _ ha⟩) (by simp only[execOp,ho];rfl)
 | pick c a b=>
  rw[ho] at hl;simp only[eS] at hl;obtain⟨a',ha,hl⟩:=mO hl;obtain⟨b',hb,hl⟩:=mO hl;split at hl
  ·rename_i hc;have hcV:=hρ _ _ hc;generalize hg:ρ c=v at hcV;cases hcV;exact pv _ (do Pure.pure (if <-asBool (ρ c) then ρ a else ρ b)) hl (λx hx=>⟨ρ a,by simp[hg,asBool],by simp only[n8] at hx;subst hx;exact hρ _ _ ha⟩) (by simp only[execOp,ho,bind_assoc,pure_bind])
  ·rename_i hc;have hcV:=hρ _ _ hc;generalize hg:ρ c=v at hcV;cases hcV;exact pv _ (do Pure.pure (if <-asBool (ρ c) then ρ a else ρ b)) hl (λx hx=>⟨ρ b,by simp[hg,asBool],by simp only[n8] at hx;subst hx;exact hρ _ _ hb⟩) (by simp only[execOp,ho,bind_assoc,pure_bind])
  ·simp at hl
 | alloc e=>rw[ho] at hl;simp only[eS] at hl;exact al _ hl (by rw[ho])
 | box e x=>rw[ho] at hl;simp only[eS] at hl;exact al _ hl (by rw[ho])
 | buildSlice tt n ps=>rw[ho] at hl;simp only[eS] at hl;exact al _ hl (by rw[ho])
 | makeMap tt r=>rw[ho] at hl;simp only[eS] at hl;exact al _ hl (by rw[ho])
 | makeSlice tt l c=>rw[ho] at hl;simp only[eS] at hl;exact al _ hl (by rw[ho])
 | build tt ps=>
  rw[ho] at hl;simp only[eS] at hl;refine pv _ (Instr.build tt (ps.map λ(i,x)=>(i,ρ x))) hl (λa ha=>?_) (by simp only[execOp,ho]);obtain⟨qs,hq,hb⟩:=mO ha;exact K2 hb (by simpa using yb hρ ps.toList qs hq)
 | load tt a=>
  rw[ho] at hl;simp only[eS] at hl;split at hl
  ·rename_i id off ha;have hV:=hρ _ _ ha;generalize hg:ρ a=v at hV
   cases hV with
   | ptr hp=>
    refine pv _ (Instr.loadAt tt (ρ a)) hl (λr hr'=>?_) (by simp only[execOp,ho]);obtain⟨z,h1,h2⟩:=hr.IP (P:=P) hr' hp;exact⟨z,by simp only[Instr.loadAt,hg,Instr.sureAddr,n5,m9,n7];exact h1,h2⟩
  ·simp at hl
 | store tt a x=>
  rw[ho] at hl;simp only[eS] at hl;split at hl
  ·rename_i id off y ha hx;have hV:=hρ _ _ ha;generalize hg:ρ a=v at hV
   cases hV with
   | ptr hp=>
    refine pu _ (Instr.storeAt tt (ρ a) (ρ x)) hl (λh' hh=>?_) (by simp only[execOp,ho]);obtain⟨w',h1,h2,h3⟩:=hr.GY (P:=P) hh hp (hρ _ _ hx);exact⟨w',by simp only[Instr.storeAt,hg,Instr.sureAddr,n5,m9,n7];exact h1,h2,h3⟩
  ·simp at hl
 | nilCheck x=>
  rw[ho] at hl;simp only[eS] at hl;obtain⟨a,ha,rfl⟩:=PD hl;obtain⟨y,hy,hn⟩:=mO ha;obtain⟨z,h1,h2⟩:=Dk (P:=P) (w:=w) (ρ:=ρ) (o:=o) hn (hρ _ _ hy) ho;exact⟨_,_,qr rfl,σ,_,w,h1,⟨z,rfl,h2⟩,hr,.refl _ _ _⟩
 | binOp op xt x y yt=>
  rw[ho] at hl;simp only[eS] at hl;refine pv _ (do eqGuard op xt x y (ρ x) (ρ y);binOp op xt (ρ x) (ρ y)) hl (λa ha=>?_) (by simp only[execOp,ho]);obtain⟨x',hx,ha⟩:=mO ha;obtain⟨y',hy,ha⟩:=mO ha;obtain⟨z,h1,h2⟩:=Q2 (P:=P) (w:=w) ha (hρ _ _ hx) (hρ _ _ hy);exact⟨z,by simp only[n5,Ii ha (hρ _ _ hx) (hρ _ _ hy),n7];exact h1,h2⟩
 | unOp op tt x=>
  rw[ho] at hl;simp only[eS] at hl;refine pv _ (Op.unary op (ρ x)) hl (λa ha=>?_) (by simp only[execOp,ho]);obtain⟨x',hx,ha⟩:=mO ha;exact Vu ha (hρ _ _ hx)
 | convert s d x=>
  rw[ho] at hl;simp only[eS] at hl;refine pv _ (convert s d (ρ x)) hl (λa ha=>?_) (by simp only[execOp,ho]);obtain⟨x',hx,ha⟩:=mO ha;exact O5 ha (hρ _ _ hx)
 | makeInterface xt x=>
  rw[ho] at hl;simp only[eS] at hl;split at hl
  ·simp at hl
  ·rename_i d hni hu;refine pv _ (Instr.makeInterface xt (ρ x)) hl (λa ha=>?_) (by simp only[execOp,ho]);obtain⟨x',hx,rfl⟩:=aq ha;refine⟨.iface xt (ρ x),?_,.iface (hρ _ _ hx)⟩;simp only[Instr.makeInterface,n5,aQ hu,n7]
   cases d<;>first
    | rfl
    | exact t7 rfl (hni _)
  ·simp at hl
 | makeFunc f first cap=>
  rw[ho] at hl;simp only[eS] at hl
  have hny:∀l,f≠.yield l:=by intro l e;subst e;simp at hl
  have hl2:((Aj t first.toList).bind λa=>(Aj t cap.toList).map λb=>AV.fn f a b).map (λx=>[(some x,h)])=some outs:=by
   cases f<;>first
    | exact hl
    | simp at hl
  refine pv _ (Instr.makeFunc f (first.map ρ) (cap.map ρ)) hl2 (λa ha=>?_) (by simp only[execOp,ho]);obtain⟨aS,h1,ha⟩:=mO ha;obtain⟨bs,h2,rfl⟩:=aq ha;have r1:=q6 hρ _ _ h1;have r2:=q6 hρ _ _ h2;refine⟨.func f (first.map ρ) (cap.map ρ),rfl,.fn hny (by have:=r1.1;simpa using this) (λi a v x y=>r1.2 i a v x ?_) (by have:=r2.1;simpa using this) (λi a v x y=>r2.2 i a v x ?_)⟩
  ·rw[<-ac,ca] at y;exact y
  ·rw[<-ac,ca] at y;exact y
 | slice tt x lo hi mx=>
  rw[ho] at hl;simp only[eS] at hl;refine pv _ (Instr.sliceAt tt (ρ x) (lo.map ρ) (hi.map ρ) (mx.map ρ)) hl (λa ha=>?_) (by simp only[execOp,ho]);obtain⟨x',hx,ha⟩:=mO ha;obtain⟨lo',h1,ha⟩:=mO ha;obtain⟨hi',h2,ha⟩:=mO ha;obtain⟨mx',h3,ha⟩:=mO ha
  have vo:∀(y:Option Operand) (y':Option AV),RB t y=some y'->VO σ y' (y.map ρ):=by
   intro y y' hy
   cases y with
   | none=>simp[RB] at hy;subst hy;exact trivial
   | some y=>
    simp only[RB] at hy;obtain⟨z,hz,rfl⟩:=aq hy;exact hρ _ _ hz
  exact L6 hr ha (hρ _ _ hx) (vo _ _ h1) (vo _ _ h2) (vo _ _ h3)
 | fieldAddr s x f=>
  rw[ho] at hl;simp only[eS] at hl;refine pv _ (Instr.fieldAt s (ρ x) f) hl (λa ha=>?_) (by simp only[execOp,ho]);obtain⟨x',hx,ha⟩:=mO ha;exact Bv ha (hρ _ _ hx)
 | field s x f=>
  rw[ho] at hl;simp only[eS] at hl;refine pv _ (Instr.field s (ρ x) f) hl (λa ha=>?_) (by simp only[execOp,ho]);obtain⟨x',hx,ha⟩:=mO ha;exact Lg ha (hρ _ _ hx)
 | indexAddr tt x i=>
  rw[ho] at hl;simp only[eS] at hl;refine pv _ (Instr.indexAt tt (ρ x) (ρ i)) hl (λa ha=>?_) (by simp only[execOp,ho]);obtain⟨x',hx,ha⟩:=mO ha;obtain⟨i',hi,ha⟩:=mO ha;exact BL ha (hρ _ _ hx) (hρ _ _ hi)
 | index tt x i=>
  rw[ho] at hl;simp only[eS] at hl;refine pv _ (Instr.index tt (ρ x) (ρ i)) hl (λa ha=>?_) (by simp only[execOp,ho]);obtain⟨x',hx,ha⟩:=mO ha;obtain⟨i',hi,ha⟩:=mO ha;exact Lq ha (hρ _ _ hx) (hρ _ _ hi)
 | lookup tt x k ok=>
  rw[ho] at hl;simp only[eS] at hl;refine pv _ (Instr.lookup tt (ρ x) (ρ k) ok) hl (λa ha=>?_) (by simp only[execOp,ho]);obtain⟨x',hx,ha⟩:=mO ha;obtain⟨k',hk,ha⟩:=mO ha;exact IQ hr ha (hρ _ _ hx) (hρ _ _ hk)
 | mapUpdate tt m k x=>
  rw[ho] at hl;simp only[eS] at hl;refine pu _ (Instr.mapUpdate tt (ρ m) (ρ k) (ρ x)) hl (λh' hh=>?_) (by simp only[execOp,ho]);obtain⟨m',hm,hh⟩:=mO hh;obtain⟨k',hk,hh⟩:=mO hh;obtain⟨x',hx,hh⟩:=mO hh;exact sB hr hh (hρ _ _ hm) (hρ _ _ hk) (hρ _ _ hx)
 | insert tt m k x=>
  rw[ho] at hl;simp only[eS] at hl;refine pu _ (Instr.mapUpdate tt (ρ m) (ρ k) (ρ x)) hl (λh' hh=>?_) (by simp only[execOp,ho]);obtain⟨m',hm,hh⟩:=mO hh;obtain⟨k',hk,hh⟩:=mO hh;obtain⟨x',hx,hh⟩:=mO hh;exact sB hr hh (hρ _ _ hm) (hρ _ _ hk) (hρ _ _ hx)
 | mapEntry tt m k=>
  rw[ho] at hl;simp only[eS] at hl;refine pvh _ (Instr.mapEntry tt (ρ m) (ρ k)) hl (λa h' hh=>?_) (by simp only[execOp,ho]);obtain⟨m',hm,hh⟩:=mO hh;obtain⟨k',hk,hh⟩:=mO hh;obtain⟨z,w',h1,h2,h3,h4⟩:=Di (P:=P) hr hh (hρ _ _ hm) (hρ _ _ hk);exact⟨σ,z,w',h1,h2,h3,h4⟩
 | entryStore tt m s x=>
  rw[ho] at hl;simp only[eS] at hl;refine pu _ (Instr.entryStore tt (ρ m) (ρ s) (ρ x)) hl (λh' hh=>?_) (by simp only[execOp,ho]);obtain⟨m',hm,hh⟩:=mO hh;obtain⟨s',hs,hh⟩:=mO hh;obtain⟨x',hx,hh⟩:=mO hh;exact Ai hr hh (hρ _ _ hm) (hρ _ _ hs) (hρ _ _ hx)
 | range tt x=>
  rw[ho] at hl;simp only[eS] at hl;refine pvh _ (Instr.range tt (ρ x)) hl (λa h' hh=>?_) (by simp only[execOp,ho]);obtain⟨x',hx,hh⟩:=mO hh;exact LY hr hh (hρ _ _ hx)
 | next it isS=>
  rw[ho] at hl;simp only[eS] at hl;split at hl
  ·rename_i x hx;obtain⟨l,h1,rfl⟩:=aq hl;obtain⟨r,h',h2,h3⟩:=PT (P:=P) (T:=o.type) hr h1 (hρ _ _ hx);refine⟨some r,h',mem_map.2 ⟨(r,h'),h2,rfl⟩,?_⟩
   have:execOp ρ o=(do Pure.pure (Next.value (<-Instr.next (ρ it) isS o.type))):=by simp only[execOp,ho]
   rw[this];exact .yield h3
  ·simp at hl
 | entry it=>
  rw[ho] at hl;simp only[eS] at hl;refine pv _ (Instr.entry (ρ it)) hl (λa ha=>?_) (by simp only[execOp,ho]);obtain⟨x',hx,ha⟩:=mO ha;exact Ld hr ha (hρ _ _ hx)
 | extract x i=>
  rw[ho] at hl;simp only[eS] at hl;split at hl
  ·rename_i vs hx;refine pv _ (Instr.extract (ρ x) i) hl (λa ha=>?_) (by simp only[execOp,ho]);obtain⟨us,hg,hus⟩:=(hρ _ _ hx).LN;obtain⟨z,h1,h2⟩:=hus.get ha;refine⟨z,?_,h2⟩
   have:us[i]?=some z:=by rw[<-ac];exact h1
   simp only[hg,Instr.extract,this,m9]
  ·simp at hl
 | typeAssert x xt aS ok=>
  rw[ho] at hl;simp only[eS] at hl;split at hl
  ·simp at hl
  ·rename_i d hni hu;split at hl
   ·rename_i dt y hx;obtain⟨hd,hl2⟩:=aI hl;clear hl;have:=cZ hd;subst this;refine pv _ (Instr.typeAssert (ρ x) xt dt ok) hl2 (λa ha=>?_) (by simp only[execOp,ho]);simp only[n8] at ha;subst ha;have hV:=hρ _ _ hx;generalize hg:ρ x=v at hV
    cases hV with
    | @iface _ _ z hz=>
     refine⟨if ok then .tuple #[z,.bool true] else z,?_,?_⟩
     ·simp only[Instr.typeAssert,n5,aQ hu,n7]
      cases d<;>first
       | (simp;done)
       | exact t7 rfl (hni _)
     ·cases ok
      ·exact hz
      ·exact .gR (.cons hz (.cons (.bool _) .nil))
   ·simp at hl
  ·simp at hl
 | call c=>
  rw[ho] at hl;obtain⟨callee,args,argTypes⟩:=c
  cases callee with
  | builtin b=>
   simp only[eS] at hl;obtain⟨⟨a,h'⟩,ha,rfl⟩:=PD hl;obtain⟨xs,hx,hb⟩:=mO ha;refine⟨_,_,qr rfl,?_⟩;have:=q6 hρ args.toList xs hx;have hd:=FM (T:=o.type) (cn:=args.map λ| .const _=>true | _=>false) (args:=args.map ρ) hr hb (by simpa using this);obtain⟨σ',x,w',h1,h2,h3,h4⟩:=hd;refine⟨σ',x,w',?_,h2,h3,h4⟩;simp only[execOp,ho,resolve,n5,m9,n7,invoke];exact h1
  | value f=>simp[eS] at hl
  | invoke r m=>simp[eS] at hl
 | ready g=>rw[ho] at hl;simp[eS] at hl
 | waits g=>rw[ho] at hl;simp[eS] at hl
 | sliceToArrayPointer d x=>rw[ho] at hl;simp[eS] at hl
 | makeChan tt s=>rw[ho] at hl;simp[eS] at hl
 | go c=>rw[ho] at hl;simp[eS] at hl
 | defer c=>rw[ho] at hl;simp[eS] at hl
 | panic x=>rw[ho] at hl;simp[eS] at hl
 | send ch x=>rw[ho] at hl;simp[eS] at hl
 | recv ct ch ok=>rw[ho] at hl;simp[eS] at hl
 | select cs b=>rw[ho] at hl;simp[eS] at hl
def Xd(σ:Sg)(d:jy)(d':Deferred):Prop:=match d.fn with
 | none=>∃q,σ d.sZ=some q/\d'={ target:=.collected q.b,args:=#[] }
 | some f=>∃g cap',f=.func g/\d'.target=.fn (.func g) cap'/\VL σ d.args d'.args.toList/\VL σ d.cap cap'.toList
def VA(σ:Sg):List jy->List Deferred->Prop
 | [],[]=>True
 | d::ds,d'::ds'=>Xd σ d d'/\VA σ ds ds'
 | _,_=>False
def Xd.mono{σ σ':Sg}(hle:∀id p,σ id=some p->σ' id=some p){d:jy}{d':Deferred}(h:Xd σ d d'):Xd σ' d d':=by
 unfold Xd at *
 revert h
 cases d.fn with
 | none=>intro h;obtain⟨q,h1,h2⟩:=h;exact⟨q,hle _ _ h1,h2⟩
 | some f=>intro h;obtain⟨g,cap',h1,h2,h3,h4⟩:=h;exact⟨g,cap',h1,h2,h3.mono hle,h4.mono hle⟩
def VA.mono{σ σ':Sg}(hle:∀id p,σ id=some p->σ' id=some p):∀{ds:List jy} {ds':List Deferred},VA σ ds ds'->VA σ' ds ds'
 | [],[],_=>trivial
 | _::_,_::_,h=>⟨h.1.mono hle,VA.mono hle h.2⟩
structure SR (σ:Sg) (st:St) (a:Act) (w:World):Prop where
 t:TR σ st.t st.n a.tmps
 h:HR σ st.h w
 ds:VA σ st.ds a.defers
def TR.ev{σ:Sg}{t:Tr AV}{n:Nat}{a:Act}(h:TR σ t n a.tmps):∀x y,ev t x=some y->V σ y (a.eval x):=by
 intro x y hx
 cases x with
 | tmp i=>
  simp only[Ev.ev,n8] at hx;have:=h.2 i;simp only[Act.eval]
  cases hg:t.get i with
  | none=>rw[hg] at hx this;subst hx;exact this
  | some v=>rw[hg] at hx this;subst hx;exact this
 | const v=>exact QS _ _ _ hx
 | func f=>
  simp only[Ev.ev,n8] at hx;subst hx;exact .fn f5 rfl (λi a v x _=>by simp at x) rfl (λi a v x _=>by simp at x)
 | global g=>simp[Ev.ev] at hx
def TR.put{σ:Sg}{t:Tr AV}{n:Nat}{a:Act}(h:TR σ t n a.tmps){d:Nat}{x:AV}{v:Value}(hd:d<n)(hv:V σ x v):TR σ (t.put d (some x)) n (a.put (some d) v).tmps:=by
 refine⟨by simp[Act.put,h.1],?_⟩;intro i;rw[dS];simp only[Act.put,ba,Array.getElem?_setIfInBounds];by_cases hi:i=d
 ·subst hi;rw[t8 rfl,t8 rfl,t8 (by rw[h.1];exact hd)];exact hv
 ·rw[ul hi,ul (λe=>hi e.symm)];have:=h.2 i;rw[ba] at this;exact this
def put_defers(a:Act)(d:Option Tmp)(v:Value):(a.put d v).defers=a.defers:=by cases d<;>rfl
def Fy(P:Program)(r:Result Next)(R:Value->World->Prop):Prop:=match r with
 | .ok (.value v) w'=>R v w'
 | .ok (.enter f args) w'=>Calls P f args w' (λe w''=>∃v,e=.returned v/\R v w'')
 | .ok (.round l f tmps a b) w'=>∀n,RoundIn Fence.wide n P l f tmps a b w' (λe w''=>∃v,e=.returned v/\R v w'')
 | _=>False
def Y0(σ:Sg)(h:H)(w:World)(outs:List (AV×H))(v:Value)(w':World):Prop:=∃a h',(a,h')∈outs/\∃σ',V σ' a v/\HR σ' h' w'/\Ext σ σ' h h' w w'
variable{F:Fence}
def Da{n l:Nat}{f:FuncId}{w:World}{R:Ending->World->Prop}(h:CallsIn F n P f args w R):CallsIn (F.inRound l) n P f args w R:=h
def Ds{n l k:Nat}{f:FuncId}{t:Array Value}{a b:Code}{w:World}{R:Ending->World->Prop}(h:RoundIn F n P k f t a b w R):RoundIn (F.inRound l) n P k f t a b w R:=h
def Fx(σ:Sg)(ro:Option Nat)(F:Fence):Prop:=match ro with
 | none=>F=Fence.wide
 | some id=>∃p,σ id=some p/\F=Fence.wide.inRound p.b
variable{ro:Option Nat}
def Fx.mono{σ':Sg}(hle:∀id p,σ id=some p->σ' id=some p)(h:Fx σ ro F):Fx σ' ro F:=by
 cases ro with
 | none=>exact h
 | some id=>obtain⟨p,h1,h2⟩:=h;exact⟨p,hle _ _ h1,h2⟩
def Fx.fn{σ:Sg}{ro:Option Nat}{F:Fence}(h:Fx σ ro F)(f:FuncId):F.fn f:=by
 cases ro with
 | none=>rw[show F=Fence.wide from h];trivial
 | some id=>obtain⟨p,_,rfl⟩:=h;trivial
def Fx.depth{σ:Sg}{ro:Option Nat}{F:Fence}(h:Fx σ ro F):F.depth=none:=by
 cases ro with
 | none=>rw[show F=Fence.wide from h];rfl
 | some id=>obtain⟨p,_,rfl⟩:=h;rfl
def Fx.calls(h:Fx σ ro F){n:Nat}{f:FuncId}{w:World}{R:Ending->World->Prop}(hc:Calls P f args w R):CallsIn F n P f args w R:=by
 cases ro with
 | none=>rw[show F=Fence.wide from h];exact callsIn_wide.2 hc
 | some id=>obtain⟨p,_,rfl⟩:=h;exact Da (callsIn_wide.2 hc)
def Fx.rounds(h:Fx σ ro F){n k:Nat}{f:FuncId}{t:Array Value}{a b:Code}{w:World}{R:Ending->World->Prop}(hc:RoundIn Fence.wide n P k f t a b w R):RoundIn F n P k f t a b w R:=by
 cases ro with
 | none=>rw[show F=Fence.wide from h];exact hc
 | some id=>obtain⟨p,_,rfl⟩:=h;exact Ds hc
def Vv(hF:Fx σ ro F){n:Nat}{o:Oper}{a:Act}{next:Act->World->Prop}{Q:Exit->Act->World->Prop}{r:Result Next}{R:Value->World->Prop}
 (hf:Fy P r R) (hn:∀v w',R v w'->next (a.put o.dst v) w'):o.uponIn F n P a next Q r:=by
 cases r with
 | halt h w=>exact hf.elim
 | ok x w'=>
  cases x with
  | value v=>exact hn v w' hf
  | enter f args=>
   have h2:=hF.calls (n:=n-1) hf;refine⟨λh=>by rw[hF.depth] at h;simp at h,h2.1,λcs hr=>?_⟩;obtain⟨e,w'',fr,⟨v,rfl,hR⟩,h3⟩:=h2.2 cs hr;exact⟨.returned v,w'',fr,hn v w'' hR,h3⟩
  | round l f tmps aS b=>
   refine⟨λh=>by rw[hF.depth] at h;simp at h,?_⟩
   exact(hF.rounds (hf (n-1))).mono λe w'' ⟨v,he,hR⟩=>by subst he;exact hn v w'' hR
  | _=>exact hf.elim
variable{xs:List AV}{cap:List AV}
def K3{t:Tr AV}{c:Call}{f:Fn}(h:qW P t c=some (f,xs,cap))(hρ:∀x a,ev t x=some a->V σ a (ρ x))(T:TypeId){w:World}:
 (∃g args',f=.func g/\VL σ (xs++cap) args'.toList/\((do let d <-resolve ρ c T;invoke d.target d.args):Sem Next).run P w=(callFunc g args').run P w)\/
 (∃id p args',f=.yield id/\σ id=some p/\VL σ (xs++cap) args'.toList/\((do let d <-resolve ρ c T;invoke d.target d.args):Sem Next).run P w=(Instr.yield p.b args').run P w)\/
 (∀g,f≠.func g)/\(∀id,f≠.yield id):=by
 unfold qW at h;obtain⟨callee,args,ats⟩:=c;simp only at h
 cases callee with
 | builtin b=>simp at h
 | value g=>
  simp only at h;split at h
  ·rename_i fn first cp hg
   obtain⟨ys,hy,he⟩:=aq h;simp only[m8] at he;obtain⟨rfl,rfl,rfl⟩:=he;have hys:=q6 hρ _ _ hy;have hV:=hρ _ _ hg;generalize hgv:ρ g=v at hV
   cases hV with
   | @fn _ _ _ fs' cs' hfy h1 h2 h3 h4=>
    have hfs:VL σ first fs'.toList:=⟨by simpa using h1,λi a v x y=>h2 i a v x (by simpa using y)⟩
    have hcs:VL σ cp cs'.toList:=⟨by simpa using h3,λi a v x y=>h4 i a v x (by simpa using y)⟩
    cases fn with
    | func k=>
     refine .inl ⟨k,fs'++args.map ρ++cs',rfl,?_,?_⟩
     ·simp only[b7,ca];exact(hfs.append hys).append hcs
     ·simp only[resolve,hgv,Deferred.ofValue,n5,m9,n7,invoke]
    | yield l=>exact t7 rfl (hfy l)
    | method nm=>exact .inr (.inr ⟨by simp,by simp⟩)
    | methodOf tt nm=>exact .inr (.inr ⟨by simp,by simp⟩)
    | via tt p q b=>exact .inr (.inr ⟨by simp,by simp⟩)
   | @yield id p hp=>
    refine .inr (.inl ⟨id,p,#[]++args.map ρ,rfl,hp,?_,?_⟩)
    ·simp only[b7,ca,List.nil_append,fo];exact hys
    ·simp only[resolve,hgv,Deferred.ofValue,n5,m9,n7,invoke]
  ·simp at h
 | invoke r name=>
  simp only at h;split at h
  ·rename_i tt v hr;obtain⟨g,hg,h⟩:=nQ h;obtain⟨ys,hy,he⟩:=aq h;simp only[m8] at he;obtain⟨rfl,rfl,rfl⟩:=he;have hys:=q6 hρ _ _ hy;have hV:=hρ _ _ hr;generalize hgv:ρ r=rv at hV
   cases hV with
   | @iface _ _ vv hva=>
    obtain⟨i,m,d,hi,hf,hp,hfu,hu,hd⟩:=yN hg;refine .inl ⟨g,#[vv]++args.map ρ,rfl,?_,?_⟩
    ·simp only[b7,ca,fo];exact .cons hva hys
    ·have hpath:m.path.toList=[]:=by
      have:=hp;simpa using this
     have hm:(method (P.types.size+Made.depth) tt vv name).run P w=.ok (g,vv) w:=by
      rw[show P.types.size+Made.depth=(P.types.size+99)+1 from rfl];generalize P.types.size+99=kk;simp only[method,n5,dn hi,n7,hf,hpath,follow,m9,hfu,receiverAt,aQ hu]
      cases d<;>first
       | rfl
       | exact t7 rfl (hd _)
     have he0:(#[Value.iface tt vv]++args.map ρ)[0]?=some (Value.iface tt vv):=by rw[Array.getElem?_append_left f5];rfl
     have he1:(#[Value.iface tt vv]++args.map ρ).extract 1 (#[Value.iface tt vv]++args.map ρ).size=args.map ρ:=by
      apply ext';simp;exact b9 f5
     simp only[resolve,hgv,n5,m9,n7,invoke,he0,he1,callMethod,run_program,hm]
  ·simp at h
def C4{ops:Array Oper}{t:Tr AV}{n:Nat}{a:Act}{o:Oper}{b:Bool}(h:wY ops.toList t n o=some b)(ht:TR σ t n a.tmps):Region.wanted o (yielded ops a.tmps)=b:=by
 unfold wY at h;unfold Region.wanted;split at h
 ·rename_i hg;rw[hg];simpa using h
 ·rename_i j want hg;rw[hg];simp only;split at h
  ·rename_i d hd;obtain⟨hlt,h2⟩:=aI h;have hlt:=fY hlt
   have hd':(ops[j]?).bind (·.dst)=some d:=by rw[<-ac];exact hd
   have hsz:d<a.tmps.size:=by rw[ht.1];exact hlt
   have hv:=ht.2 d;have hget:a.tmps[d]?=some (a.tmps[d]):=Array.getElem?_eq_getElem hsz;rw[ba,hget] at hv;simp only[ej] at hv
   have hy:yielded ops a.tmps j=match a.tmps[d] with | .bool b=>some b | _=>none:=by
    unfold yielded;rw[hd'];simp only[m7,hget];cases a.tmps[d]<;>rfl
   rw[hy];generalize a.tmps[d]=v at hv;split at h2
   ·rename_i x hx;rw[hx] at hv;simp only[ej] at hv;cases hv;simp only[n8] at h2;subst h2;cases x<;>cases want<;>rfl
   ·rename_i hx;rw[hx] at hv;simp only[ej] at hv;obtain⟨vs,rfl,_⟩:=hv.LN;simp only[n8] at h2;subst h2;rfl
   ·rename_i hx;rw[hx] at hv;obtain⟨vs,rfl,_⟩:=V.LN (cs:=[]) hv;simp only[n8] at h2;subst h2;rfl
   ·simp at h2
  ·simp at h
def Zz:Ex->Exit->Prop
 | .normal,e=>e=.normal
 | .ret,e=>e=.ret
 | .exit id,e=>e=.exit id
 | .goto l,e=>e=.goto l
def M9{n:Nat}{c:Code}{Q:Exit->Act->World->Prop}{a:Act}{w:World}(h:c.wpIn F n P (λe a w=>(∀l,e≠.goto l)/\Q e a w) a w):(Code.scope c).wpIn F n P Q a w:=by
 intro b k cs hro hb hr;have st1:step P (lone (b.atR a (.code (.scope c)::k)) cs w)=.next (lone (b.atR a (.code c::.inScope c::k)) cs w):=step_lone_go (by simp[stepG,stepG.exec,Frame.atR]);have h0:(lone (b.atR a (.code (.scope c)::k)) cs w).fenced P F:=fenced_calm hb hr rfl;obtain⟨e,a₁,w₁,⟨hng,hq⟩,harr⟩:=h b (.inScope c::k) cs hro hb hr
 cases e with
 | normal=>
  have st2:step P (lone (b.atR a₁ (.inScope c::k)) cs w₁)=.next (lone (b.atR a₁ k) cs w₁):=step_lone_go (by simp[stepG,stepG.exec,Frame.atR]);exact⟨.normal,a₁,w₁,hq,.head h0 st1 (StepsIn.trans harr (.one (fenced_calm hb hr rfl) st2))⟩
 | exit id=>
  have hx:exitTo id (.inScope c::k)=exitTo id k:=rfl
  exact⟨.exit id,a₁,w₁,hq,λk' hk=>.head h0 st1 (harr.1 k' (by rw[hx];exact hk)),
   λhr' hk=>let ⟨k₁,h1,h2⟩:=harr.2 hr' (by rw[hx];exact hk);⟨k₁,h1,.head h0 st1 h2⟩⟩
 | goto l=>exact t7 rfl (hng l)
 | ret=>exact⟨_,a₁,w₁,hq,.of_steps (.one h0 st1) harr⟩
 | panic ch=>exact⟨_,a₁,w₁,hq,.of_steps (.one h0 st1) harr⟩
 | outgrown=>exact⟨_,a₁,w₁,hq,.of_steps (.one h0 st1) harr⟩
variable{ps:Array Tmp}{d:Nat}
def wD{w:World}(hr:HR σ h w){st:LoopState}{p:Option Code}{t:Tr AV}{n:Nat}{x y:Code}(hl:h.rl id=some (st,p,t,n,ps,x,y,d)):
 h.aV.get id=some (.loop st p t n ps x y d)/\∃q,σ id=some q/\∃f tmps qd,w.heap[q.b]?=some (.loop { state:=st,pending:=p,fn:=f,tmps,params:=ps,assign:=x,body:=y,defers:=qd.b })/\σ d=some qd/\TR σ t n tmps:=by
 unfold H.rl at hl;split at hl
 ·rename_i ho;simp only[n8,m8] at hl;obtain⟨rfl,rfl,rfl,rfl,rfl,rfl,rfl,rfl⟩:=hl;obtain⟨q,hq,f,tmps,qd,h1,h2,h3⟩:=hr.obj id _ ho;exact⟨ho,q,hq,f,tmps,qd,h1,h2,h3⟩
 ·simp at hl
def HR.newObj{σ:Sg}{h:H}{w:World}(hr:HR σ h w){o:AO}{ob:Obj}(hc:nk o=false)(hor:OR (up σ h.next ⟨w.heap.size,0,0⟩) o ⟨w.heap.size,0,0⟩ (some ob)):
 HR (up σ h.next ⟨w.heap.size,0,0⟩) (h.newObj o).2 { w with heap:=w.heap.push ob }/\Ext σ (up σ h.next ⟨w.heap.size,0,0⟩) h (h.newObj o).2 w { w with heap:=w.heap.push ob }:=by
 obtain⟨k1,k2⟩:=hr.new (r:=0) (o:=o) (ob:=ob) (w':={ w with heap:=w.heap.push ob }) (λcs f hf=>by subst hf;simp[nk] at hc) hor rfl rfl rfl rfl
 have he:({ h.lay h.next o with next:=h.next+1 }:H)=(h.newObj o).2:=by
  unfold H.lay H.newObj;split
  ·simp[nk] at hc
  ·rfl
 rw[he] at k1 k2;exact⟨k1,k2⟩
def uZ(P:Program):Prop:=∀(f:FuncId) (fn:Func),P.funcs[f]?=some fn->fn.body.isSome=true->(fn.name== "runtime.NumGoroutine")=false
def eM(hng:uZ P){f:FuncId}{fn:Func}(hf:P.funcs[f]?=some fn)(hb:fn.body.isSome=true)(args:Array Value)(w:World):(callFunc f args).run P w=.ok (.enter f args) w:=by
 have h1:=hng f fn hf hb
 have h2:fn.body.isNone=false:=by cases h:fn.body<;>simp_all
 simp only[callFunc,n5,run_program,n7,hf,h1,be,if_false,h2,m9]
def Pb(hF:Fx σ ro F){assign body:Code}{st st1:St}{a:Act}{w:World}(hs:SR σ st a w)(hen:FT ro ps assign body st=some (id,st1))(fn:FuncId):
 ∃(lb:Nat) (mark:List Deferred) (w1:World) (σ1:Sg) (p:uV),(Instr.enterLoop fn a.tmps ps assign body F.round).run P w=.ok (lb,mark) w1/\σ1 id=some p/\p.b=lb/\
  SR σ1 st1 { a with defers:=mark++a.defers } w1/\Ext σ σ1 st.h st1.h w w1/\st1.n=st.n:=by
 cases ro with
 | none=>
  have hF':F=Fence.wide:=hF;subst hF';simp only[FT,n8,m8] at hen;obtain⟨rfl,rfl⟩:=hen;obtain⟨k1,k2⟩:=hs.h.newObj (o:=.pT false) (ob:=.deferred (some [])) rfl rfl
  obtain⟨k3,k4⟩:=k1.newObj (o:=.loop .ready none st.t st.n ps assign body st.h.next) (ob:=.loop { state:=.ready,pending:=none,fn:=fn,tmps:=a.tmps,params:=ps,assign:=assign,body:=body,defers:=w.heap.size }) rfl
   ⟨fn,a.tmps,⟨w.heap.size,0,0⟩,rfl,oD (k1.fresh _ (ax _)) _ _ (eX _ _ _),(hs.t.mono k2.le).mono (oD (k1.fresh _ (ax _)))⟩
  have hle:=(k2.trans k4).le;refine⟨w.heap.size+1,[{ target:=.collected w.heap.size,args:=#[] }],_,_,⟨w.heap.size+1,0,0⟩,?_,?_,rfl,⟨hs.t.mono hle,k3,?_⟩,k2.trans k4,rfl⟩
  ·have hr:Fence.wide.round=none:=rfl;rw[hr];simp only[Instr.enterLoop,n5,run_newObj,n7,m9,Array.size_push]
  ·have:(w.heap.push (.deferred (some []))).size=w.heap.size+1:=by simp
   rw[<-this];exact eX _ _ _
  ·refine⟨⟨⟨w.heap.size,0,0⟩,oD (k1.fresh _ (ax _)) _ _ (eX _ _ _),rfl⟩,hs.ds.mono hle⟩
 | some l=>
  obtain⟨pl,hpl,rfl⟩:=hF;simp only[FT] at hen;obtain⟨r,hr,he⟩:=aq hen;simp only[m8] at he;obtain⟨rfl,rfl⟩:=he;obtain⟨ls,p0,t0,n0,ps0,a0,b0,d0⟩:=r;obtain⟨ho,q,hq,f0,tm0,qd,g1,g2,g3⟩:=wD hs.h hr;rw[hpl] at hq;cases hq
  obtain⟨k3,k4⟩:=hs.h.newObj (o:=.loop .ready none st.t st.n ps assign body d0) (ob:=.loop { state:=.ready,pending:=none,fn:=fn,tmps:=a.tmps,params:=ps,assign:=assign,body:=body,defers:=qd.b }) rfl
   ⟨fn,a.tmps,qd,rfl,oD (hs.h.fresh _ (ax _)) _ _ g2,hs.t.mono (oD (hs.h.fresh _ (ax _)))⟩
  refine⟨w.heap.size,[],_,_,⟨w.heap.size,0,0⟩,?_,eX _ _ _,rfl,⟨hs.t.mono k4.le,k3,hs.ds.mono k4.le⟩,k4,rfl⟩;have hr:(Fence.wide.inRound pl.b).round=some pl.b:=rfl;rw[hr];simp only[Instr.enterLoop,Instr.getLoop,n5,cD g1 f5,run_newObj,n7,m9]
def uh:∀(aS:List AV) (i:Nat) (t:Tr AV) (j:Nat),(Bc i aS t).get j=if i<=j/\j<i+aS.length then aS[j-i]? else t.get j
 | [],i,t,j=>by simp only[Bc,g9];rw[ul gt]
 | a::aS,i,t,j=>by
  simp only[Bc,uh aS (i+1) _ j,i7];by_cases h1:i+1<=j/\j<i+1+aS.length
  ·rw[t8 h1,t8 gt,show j-i=(j-(i+1))+1 by omega,aj]
  ·rw[ul h1,dS];by_cases h2:j=i
   ·subst h2;rw[t8 rfl,t8 gt];simp
   ·rw[ul h2,ul gt]
variable{args':Array Value}
def Rx{args:List AV}(h:VL σ args args'.toList)(nt:Nat):
 TR σ (Bc 0 args .nil) (args.length+(nt-args.length)) (args'++fx (nt-args'.size) undef):=by
 have hl:args.length=args'.size:=by simpa using h.1
 refine⟨by simp;omega,?_⟩;intro i;rw[uh,ba,Array.getElem?_append];by_cases hi:i<args.length
 ·rw[t8 gt,t8 gt];obtain⟨v,h1,h2⟩:=h.get (jp hi)
  have h1':args'[i]?=some v:=by rw[<-ac];exact h1
  rw[h1',co,jp hi];exact h2
 ·rw[ul gt,ul gt,get_nil];rw[Array.getElem?_replicate];split
  ·exact V.kJ
  ·exact V.kJ
def IT{P:Program}{w:World}{α:Type}{σ:Sg}{f:α->Option AV}{g:α->Sem Value}(hfg:∀x a,f x=some a->∃v,(g x).run P w=.ok v w/\V σ a v):∀(l:List α) (aS:List AV),l.mapM f=some aS->
 ∃vs:List Value,(l.mapM g).run P w=.ok vs w/\VL σ aS vs
 | [],aS,h=>by simp at h;subst h;exact⟨[],by simp,.nil⟩
 | x::l,aS,h=>by
  rw[c3] at h
  cases h1:f x with
  | none=>simp[h1] at h
  | some a=>
   cases h2:l.mapM f with
   | none=>simp[h1,h2] at h
   | some bs=>
    simp[h1,h2] at h;subst h;obtain⟨v,k1,k2⟩:=hfg x a h1;obtain⟨vs,k3,k4⟩:=IT hfg l bs h2;refine⟨v::vs,?_,.cons k2 k4⟩;rw[c3];simp only[n5,k1,n7,k3,m9]
def wi{t:Tr AV}{n:Nat}{w:World}{fn:Func}{a:Act}{r:AV}(ht:TR σ t n a.tmps)(hr:HR σ h w)(hres:wh P t h fn.results.toList=some r):
 ∃v,(results fn a.tmps).run P w=.ok v w/\V σ r v:=by
 unfold wh at hres;obtain⟨aS,h1,h2⟩:=aq hres
 have hfg:∀(x:ResultVar) (y:AV),(match x with
  | ResultVar.tmp i=>ev t (.tmp i)
  | ResultVar.cell a tt=>match ev t (.tmp a) with
   | some (.ptr (some (id,off)))=>h.load P tt id off
   | _=>none)=some y->∃v,(match x with
  | .tmp t=>pure (a.tmps.getD t undef)
  | .cell q tt=>do loadVar tt (<-asAddr (a.tmps.getD q undef)):Sem Value).run P w=.ok v w/\V σ y v:=by
  intro x y hx
  cases x with
  | tmp i=>exact⟨_,rfl,ht.ev _ _ hx⟩
  | cell q tt=>
   simp only at hx;split at hx
   ·rename_i id off hq;have hV:=ht.ev _ _ hq;have he:a.eval (.tmp q)=a.tmps.getD q undef:=rfl;rw[he] at hV;generalize hg:a.tmps.getD q undef=v at hV
    cases hV with
    | ptr hp=>
     obtain⟨z,k1,k2⟩:=hr.IP (P:=P) hx hp;exact⟨z,by simp only[hg,asAddr,n5,m9,n7];exact k1,k2⟩
   ·simp at hx
 obtain⟨vs,k1,k2⟩:=IT (P:=P) (w:=w) hfg fn.results.toList aS h1
 have hm:(fn.results.mapM λ
  | .tmp t=>pure (a.tmps.getD t undef)
  | .cell q tt=>do loadVar tt (<-asAddr (a.tmps.getD q undef)):Sem (Array Value)).run P w=.ok vs.toArray w:=by
  have e:∀(f:ResultVar->Sem Value),fn.results.mapM f=Functor.map List.toArray (fn.results.toList.mapM f):=by
   intro f;obtain⟨l⟩:=fn.results;exact List.mapM_toArray
  rw[e,Sem.run_map,k1];rfl
 refine⟨if h:vs.toArray.size=1 then vs.toArray[0] else .tuple vs.toArray,?_,?_⟩
 ·have key:(results fn a.tmps).run P w=(Result.ok vs.toArray w:Result (Array Value)).andThen (λvs w'=>.ok (if h:vs.size=1 then vs[0] else .tuple vs) w'):=by
   rw[<-hm];simp only[results,n5];rfl
  exact key
 ·split at h2
  ·rename_i v;subst h2;obtain⟨x,l,rfl,e1,e2⟩:=k2.dP;have:=e2.oT;subst this;simpa using e1
  ·rename_i hne;subst h2;have hl:=k2.1;by_cases hs:vs.toArray.size=1
   ·exfalso
    have:aS.length=1:=by simp at hs;omega
    match aS,this with
    | [v],_=>exact hne v rfl
   ·rw[dif_neg hs];exact .Sf k2
def vf{e:Ex}(h:lP e=true):e=.normal\/e=.ret:=by cases e<;>simp_all [lP]
variable{w':World}
def lower{σ':Sg}{h0:H}{w:World}(hr0:HR σ h0 w)(hr:HR σ' h' w')(hE:Ext σ σ' { h0 with low:=h0.next } h' w w'):
 HR σ' { h' with low:=ic h0.low h'.low } w'/\Ext σ σ' h0 { h' with low:=ic h0.low h'.low } w w':=by
 have hm:=ep h0.low h'.low;refine⟨⟨hr.obj,hr.fresh,hr.sep,hr.bX,bv hm.2 hr.B0⟩,⟨hE.le,hE.next,hE.size,hE.os,hE.tape,hE.output,hE.Xp,hE.frame,hm.1,λid h1 h2=>hE.same id (bk h1 hm.2) h2,hE.nO,hE.dN⟩⟩
def wB{σ:Sg}:∀(ps:List Tmp) (args:List AV) (vs:List Value) (n:Nat) (t t1:Tr AV) (tmps:Array Value),kH (ps.zip args) n t=some t1->VL σ args vs->TR σ t n tmps->
 TR σ t1 n ((ps.zip vs).foldl (λ(tmps:Array Value) (x:Tmp×Value)=>tmps.setIfInBounds x.1 x.2) tmps)
 | [],args,vs,n,t,t1,tmps,h,hv,ht=>by
  simp only[List.zip_nil_left,kH,n8] at h;subst h;simpa using ht
 | p::ps,[],vs,n,t,t1,tmps,h,hv,ht=>by
  have:=hv.oT;subst this;simp only[List.zip_nil_right,kH,n8] at h;subst h;simpa using ht
 | p::ps,a::args,vs,n,t,t1,tmps,h,hv,ht=>by
  obtain⟨v,vs,rfl,h1,h2⟩:=hv.dP;simp only[em,kH] at h;obtain⟨c1,h⟩:=aI h;simp only[em,fu];have:=TR.put (a:={ tmps:=tmps,defers:=[] }) ht (fY c1) h1;exact wB ps args vs n _ t1 _ h h2 this
def QA{w:World}{b:Nat}{r:Loop}(hw:w.heap[b]?=some (.loop r))(hs:args.size=r.params.size):
 (Instr.yield b args).run P w=.ok (.round b r.fn ((r.params.zip args).foldl (λtmps (t,a)=>tmps.setIfInBounds t a) r.tmps) r.assign r.body) w:=by
 have:(args.size≠r.params.size)=False:=by simp[hs]
 simp only[Instr.yield,Instr.getLoop,n5,cD hw f5,n7,m9,this,if_false]
def Bd{w:World}{b:Nat}{r:Loop}(hw:w.heap[b]?=some (.loop r))(hs:r.state=.ready):
 (Instr.beginRound b).run P w=.ok () { w with heap:=w.heap.setIfInBounds b (.loop { r with state:=.busy }) }:=by
 simp only[Instr.beginRound,Instr.getLoop,n5,cD hw f5,n7,m9,eZ hw f5,hs]
def FQ{w:World}{b:Nat}{r:Loop}(hw:w.heap[b]?=some (.loop r))(j:Option Code):
 (Instr.endRound b j).run P w=.ok (.bool j.isNone) { w with heap:=w.heap.setIfInBounds b (.loop { r with state:=if j.isNone then .ready else .done,pending:=j }) }:=by
 simp only[Instr.endRound,Instr.getLoop,n5,cD hw f5,n7,m9,eZ hw f5]
def BJ(a b j:Nat):bW (lor a b) j=(bW a j||bW b j):=Nat.testBit_or a b j
def Lo(n j:Nat):bW (bit n) j=true↔n=j:=by
 unfold bW bit;rw[Nat.testBit_two_pow];simp
def IA(j:Nat):bW 0 j=false:=Nat.zero_testBit j
def LB(acc:List Nat)(o:Oper):Nat:=o.after.toList.foldl (λm e=>cond (Region.binds .any e) (lor m (lor (bit e.on) (acc.getD e.on 0))) m) 0
def rm(o:Oper)(rest:List Oper)(acc:List Nat):qq (o::rest) acc=qq rest (acc++[LB acc o]):=rfl
def Iu{acc:List Nat}{j:Nat}:∀(l:List Edge) (m:Nat),bW (l.foldl (λm e=>cond (Region.binds .any e) (lor m (lor (bit e.on) (acc.getD e.on 0))) m) m) j=true->
 bW m j=true\/∃e∈l,Region.binds .any e=true/\(e.on=j\/bW (acc.getD e.on 0) j=true)
 | [],m,h=>.inl h
 | e::l,m,h=>by
  rw[fu] at h
  rcases Iu l _ h with h1 | ⟨e',h1,h2⟩
  ·cases hb:Region.binds .any e
   ·rw[hb,ar] at h1;exact .inl h1
   ·rw[hb,ah,BJ,BJ,d7,d7] at h1
    rcases h1 with h1 | h1 | h1
    ·exact .inl h1
    ·exact .inr ⟨e,ap ..,hb,.inl ((Lo _ _).1 h1)⟩
    ·exact .inr ⟨e,ap ..,hb,.inr h1⟩
  ·exact .inr ⟨e',ad _ h1,h2⟩
def x6:∀(rest:List Oper) (acc:List Nat) (i:Nat),i<acc.length->(qq rest acc).getD i 0=acc.getD i 0
 | [],acc,i,h=>rfl
 | o::rest,acc,i,h=>by
  rw[rm,x6 rest _ i (by simp;omega)];rw[bw,bw,aO h]
def IW:∀(rest:List Oper) (acc:List Nat) (k:Nat) (o:Oper),rest[k]?=some o->
 ∃acc':List Nat,(qq rest acc).getD (acc.length+k) 0=LB acc' o/\∀j,j<acc.length+k->acc'.getD j 0=(qq rest acc).getD j 0
 | [],acc,k,o,h=>by simp at h
 | o'::rest,acc,0,o,h=>by
  simp only[bb,n8] at h;subst h;refine⟨acc,?_,λj hj=>(x6 _ _ _ gt).symm⟩;rw[rm,x6 rest _ _ f5];simp[bw]
 | o'::rest,acc,k+1,o,h=>by
  rw[aj] at h;obtain⟨acc',h1,h2⟩:=IW rest (acc++[LB acc o']) k o h;simp only[li,List.length_singleton] at h1 h2;refine⟨acc',?_,λj hj=>?_⟩
  ·rw[rm,show acc.length+(k+1)=acc.length+1+k by omega];exact h1
  ·rw[rm];exact h2 j gt
def LD{ops:List Oper}{i:Nat}{o:Oper}(ho:ops[i]?=some o)(hb:∀e∈o.after.toList,Region.binds .any e=true->e.on<i){j:Nat}(hj:bW ((qq ops []).getD i 0) j=true):
 ∃e∈o.after.toList,Region.binds .any e=true/\(e.on=j\/bW ((qq ops []).getD e.on 0) j=true):=by
 obtain⟨acc',h1,h2⟩:=IW ops [] i o ho;simp only[g9,d6] at h1 h2;rw[h1] at hj
 rcases Iu _ _ hj with h | ⟨e,he,hbind,h⟩
 ·rw[IA] at h;cases h
 ·refine⟨e,he,hbind,?_⟩;rw[<-h2 e.on (hb e he hbind)];exact h
def lq{α:Type}:∀(l:List α) (k i:Nat),(dj k l)[i]?=(l[i]?).map λx=>(k+i,x)
 | [],k,i=>by simp[dj]
 | x::xs,k,0=>by simp[dj]
 | x::xs,k,i+1=>by
  simp only[dj,aj,lq xs (k+1) i];cases xs[i]?<;>simp;omega
def cut(a:Act)(l:List Tmp):Act:={ tmps:=Array.ofFn (n:=a.tmps.size) λj=>if j.1∈l then a.tmps[j.1] else undef,defers:=[] }
def LF{o:Oper}{t:Tmp}(h:Operand.tmp t∈o.op.operands):t∈tmpsOf o:=
 List.mem_filterMap.2 ⟨.tmp t,by simpa using h,rfl⟩
def left(listed:Array Bool)(L:Nat):Nat:=((bi L).filter λi=>!listed.getD i false).length
def filter_lt{α:Type}{p q:α->Bool}:∀(l:List α),(∀x∈l,q x=true->p x=true)->(∃x∈l,p x=true/\q x=false)->(l.filter q).length<(l.filter p).length
 | [],_,⟨x,hx,_⟩=>by simp at hx
 | y::l,h,⟨x,hx,hp,hq⟩=>by
  have hle:∀(l:List α),(∀x∈l,q x=true->p x=true)->(l.filter q).length<=(l.filter p).length:=by
   intro l
   induction l with
   | nil=>intro _;simp
   | cons z l ih=>
    intro h;have:=ih (λx hx=>h x (ad _ hx));have hz:=h z (ap ..);rw[ci,ci];cases hqz:q z
    ·cases hpz:p z<;>simp<;>omega
    ·rw[hz hqz];simp;omega
  have h':∀x∈l,q x=true->p x=true:=λx hx=>h x (ad _ hx);rw[ci,ci]
  rcases rt hx with rfl | hx
  ·rw[hp,hq];have:=hle l h';simp;omega
  ·have:=filter_lt l h' ⟨x,hx,hp,hq⟩;have hy:=h y (ap ..);cases hqy:q y
   ·cases hpy:p y<;>simp<;>omega
   ·rw[hy hqy];simp;omega
open Go.RowKit
def Fy.mono{P:Program}{r:Result Next}{R R':Value->World->Prop}(h:Fy P r R)(hR:∀v w,R v w->R' v w):Fy P r R':=by
 cases r with
 | halt x w=>exact h.elim
 | ok x w=>
  cases x with
  | value v=>exact hR _ _ h
  | enter f args=>exact Calls.mono h λe w' ⟨v,he,hr⟩=>⟨v,he,hR _ _ hr⟩
  | round l f tmps a b=>exact λn=>RoundIn.mono (h n) λe w' ⟨v,he,hr⟩=>⟨v,he,hR _ _ hr⟩
  | _=>exact h.elim
def hz:H:={ aV:=.nil,dN:=.nil,next:=0,low:=0 }
def qR{w:World}(hr:HR σ h w)(hb:Below w.heap.size w w'):HR σ h w'/\Ext σ σ h h w w':=by
 refine⟨⟨λid o ho=>?_,hr.fresh,hr.sep,hr.bX,hr.B0⟩,⟨λ_ _ h=>h,ax _,hb.size,hb.os,hb.tape,hb.output,λid o p ho hp=>.inr ⟨id,o,p,ho,hp,rfl,λh=>h⟩,λb hlt _=>hb.block b hlt,ax _,λ_ _ _=>rfl,λ_ _ h=>h,λid cs _ ho=>.inr ⟨id,cs,ho⟩⟩⟩;obtain⟨p,hp,hor⟩:=hr.obj id o ho;exact⟨p,hp,by rw[hb.block _ (hr.lt ho hp)];exact hor⟩
def C8(P:Program)(f:FuncId)(k:XK):Prop:=∀args h a h',xA k args h=some (a,h')->∀σ w (args':Array Value),VL σ args args'.toList->HR σ h w->Fy P ((callFunc f args').run P w) (Y0 σ h w [(a,h')])
def VG{a:AV}(h:VL σ [a] args'.toList):∃x,args'=#[x]/\V σ a x:=by
 obtain⟨x,l,e,h1,h2⟩:=h.dP;have:=h2.oT;subst this;exact⟨x,ext' e,h1⟩
def HW{a b:AV}(h:VL σ [a,b] args'.toList):∃x y,args'=#[x,y]/\V σ a x/\V σ b y:=by
 obtain⟨x,l,e,h1,h2⟩:=h.dP;obtain⟨y,l,rfl,h3,h4⟩:=h2.dP;have:=h4.oT;subst this;exact⟨x,y,ext' e,h1,h3⟩
def C8.clone{P:Program}{f:FuncId}(hrun:∀(t:TypeId) (r:Nat) (es:Array MapEntry) (ck:Nat) (w:World),w.heap[r]?=some (.map es ck)->(callFunc f #[.iface t (.map (some r))]).run P w=.ok (.value (.iface t (.map (some w.heap.size)))) (w.alloc (.map es ck))):C8 P f .clone:=by
 intro args h a h' hx σ w args' hv hr
 have hshape:∃t id es c,args=[.iface t (.map (some id))]/\h.mapOf id=some (es,c)/\a=.iface t (.map (some h.next))/\h'={ h.lay h.next (.map es c) with next:=h.next+1 }:=by
  unfold xA at hx
  split at hx<;>first
   | (obtain⟨⟨es,c⟩,h1,h2⟩:=aq hx;cases h2;exact⟨_,_,_,_,rfl,h1,rfl,rfl⟩)
   | simp_all
 obtain⟨t,id,es,c,rfl,hm,rfl,rfl⟩:=hshape;obtain⟨x,rfl,h1⟩:=VG hv
 cases h1 with
 | iface h1=>
  cases h1 with
  | @map _ p hp=>
   obtain⟨ho,es',hw,hE⟩:=hr.map hm hp;rw[hrun t p.b es' c w hw]
   obtain⟨k1,k2⟩:=hr.new (r:=0) (o:=.map es c) (ob:=.map es' c) (w':=w.alloc (.map es' c)) (λcs f hf=>by cases hf)
    ⟨es',rfl,by have:=hE.1;simpa using this,λi e m he hm=>by
     obtain⟨a1,a2,a3⟩:=hE.2 i e m he (by simpa using hm)
     exact⟨a1.mono (oD (hr.fresh _ (ax _))),a2.mono (oD (hr.fresh _ (ax _))),a3⟩⟩ rfl rfl rfl rfl
   exact⟨_,_,qr rfl,_,.iface (.map (p:=⟨w.heap.size,0,0⟩) (eX _ _ _)),k1,k2⟩
def De(hng:uZ P){f:FuncId}{fn:Func}(hf:P.funcs[f]?=some fn)(hb:fn.body.isSome=true){w:World}{a:AV}{v:Value}(hr:HR σ h w)(hV:V σ a v)
 (hc:Calls P f args' w λe w'=>e=.returned v/\Below w.heap.size w w'):Fy P ((callFunc f args').run P w) (Y0 σ h w [(a,h)]):=by
 rw[eM hng hf hb];refine Calls.mono hc λe w' ⟨he,hb⟩=>⟨v,he,a,h,qr rfl,σ,hV,?_⟩;exact qR hr hb
noncomputable section
def rv(h:H)(r:Option AV):R (Option AV×H):=r.map λx=>[(some x,h)]
def XH(fs:List Func):Bool:=fs.all λfn=>!(fn.body.isSome&&fn.name== "runtime.NumGoroutine")
def UP(h:XH P.funcs.toList=true):uZ P:=by
 intro f fn hf hb
 have hm:fn∈P.funcs.toList:=by
  have h1:P.funcs.toList[f]?=some fn:=by rw[ac];exact hf
  exact List.mem_of_getElem? h1
 have:=List.all_eq_true.1 h fn hm;rw[hb] at this;cases hn:fn.name== "runtime.NumGoroutine"
 ·rfl
 ·rw[hn] at this;simp at this
def idx_eq(c:Nat)(hc:c<256):∀(l:List UInt8) (i:Nat),gP c (l.map (·.toNat)) i=if Lib.indexByte l c.toUInt8 = -1 then -1 else Lib.indexByte l c.toUInt8+i
 | [],i=>rfl
 | b::l,i=>by
  have ih:=idx_eq c hc l (i+1);have hge:=Lib.indexByte_ge l c.toUInt8
  have he:Lib.indexByte (b::l) c.toUInt8=if b==c.toUInt8 then 0 else if Lib.indexByte l c.toUInt8 == -1 then -1 else Lib.indexByte l c.toUInt8+1:=rfl
  generalize Lib.indexByte (b::l) c.toUInt8=z at he;simp only[List.map_cons,gP]
  have hcc:(c.toUInt8).toNat=c:=by simp[Nat.toUInt8,UInt8.toNat_ofNat];omega
  cases hb:Nat.beq b.toNat c
  ·have hne:(b==c.toUInt8)=false:=by
    cases h:b==c.toUInt8
    ·rfl
    ·have e:=eq_of_beq h
     have:b.toNat=c:=by rw[e,hcc]
     rw[QI this] at hb;cases hb
   rw[hne] at he;simp only[Bool.false_eq_true,if_false] at he;rw[ar,ih];by_cases h1:Lib.indexByte l c.toUInt8 = -1
   ·have h2:(Lib.indexByte l c.toUInt8 == -1)=true:=by simpa using h1
    rw[h2] at he;simp only[if_true] at he;rw[t8 h1,t8 he]
   ·have h2:(Lib.indexByte l c.toUInt8 == -1)=false:=by simpa using h1
    rw[h2] at he;simp only[Bool.false_eq_true,if_false] at he;rw[ul h1,ul gt];omega
  ·have h:(b==c.toUInt8)=true:=by
    have e:=cZ hb;have:b=c.toUInt8:=UInt8.toNat_inj.1 (by rw[hcc];exact e);rw[this];exact beq_self_eq_true _
   rw[h] at he;simp only[if_true] at he;rw[ah,he];simp
def C8.indexByte{P:Program}{f:FuncId}(hrun:∀(x:ByteArray) (c:Int) (w:World),(callFunc f #[.string x,.int .u8 c]).run P w=.ok (.value (.int .i64 (Lib.indexByte x.data.toList c.toNat.toUInt8))) w):C8 P f .indexByte:=by
 intro args h a h' hx σ w args' hv hr
 have hshape:∃s c,args=[.str s,.int .u8 (.ofNat c)]/\blt c 256=true/\a=.int .i64 (gP c s 0)/\h'=h:=by
  unfold xA at hx
  split at hx<;>first
   | (obtain⟨h1,h2⟩:=aI hx;cases h2;exact⟨_,_,rfl,h1,rfl,rfl⟩)
   | simp_all
 obtain⟨s,c,rfl,hc,rfl,rfl⟩:=hshape;obtain⟨x,y,rfl,h1,h2⟩:=HW hv
 cases h1 with
 | @str _ sx hs=>
  cases h2;rw[hrun sx _ w,<-hs,idx_eq c (fY hc)];have e:(ofNat c).toNat=c:=rfl;rw[e]
  have:(if Lib.indexByte sx.data.toList c.toUInt8 = -1 then -1 else Lib.indexByte sx.data.toList c.toUInt8+((0:Nat):Int))=Lib.indexByte sx.data.toList c.toUInt8:=by
   split
   ·rename_i h;exact h.symm
   ·omega
  rw[this];exact⟨_,_,qr rfl,σ,.int _ _,hr,.refl _ _ _⟩
def HK(σ:Sg)(h:H)(w:World)(Q:AV->H->Prop)(v:Value)(w':World):Prop:=∃a h',Q a h'/\∃σ',V σ' a v/\HR σ' h' w'/\Ext σ σ' h h' w w'
def dK(P:Program)(f:Fn)(args:List AV)(h:H)(Q:AV->H->Prop):Prop:=match f with
 | .func g=>∀σ w (args':Array Value),VL σ args args'.toList->HR σ h w->Fy P ((callFunc g args').run P w) (HK σ h w Q)
 | .yield id=>∀σ w p (args':Array Value),σ id=some p->VL σ args args'.toList->HR σ h w->Fy P ((Instr.yield p.b args').run P w) (HK σ h w Q)
 | _=>False
def HK.mono{w:World}{Q Q':AV->H->Prop}{v:Value}(hq:∀a h',Q a h'->Q' a h')(hg:HK σ h w Q v w'):HK σ h w Q' v w':=
 let ⟨a,h',h1,h2⟩:=hg;⟨a,h',hq _ _ h1,h2⟩
def dK.mono{P:Program}{f:Fn}{args:List AV}{h:H}{Q Q':AV->H->Prop}(hc:dK P f args h Q)(hq:∀a h',Q a h'->Q' a h'):dK P f args h Q':=by
 cases f with
 | func g=>exact λσ w args' hv hr=>(hc σ w args' hv hr).mono λv w' hg=>hg.mono hq
 | yield id=>exact λσ w p args' hp hv hr=>(hc σ w p args' hp hv hr).mono λv w' hg=>hg.mono hq
 | _=>exact hc.elim
def C6(f:Nat->AV)(d:Nat)(v:AV):Nat->AV:=λi=>_root_.cond (beq i d) v (f i)
def KD(f:Nat->AV)(d:Option Tmp)(v:AV):Nat->AV:=match d with
 | none=>f
 | some d=>C6 f d v
def wW(f:Nat->AV)(d:Nat)(v:AV):C6 f d v d=v:=by simp[C6]
def tI(f:Nat->AV){i:Nat}(v:AV)(h:i≠d):C6 f d v i=f i:=by
 unfold C6;cases hb:beq i d
 ·rfl
 ·exact t7 (cZ hb) h
noncomputable def dy(f:Nat->AV):Nat->Tr AV
 | 0=>.nil
 | n+1=>(dy f n).put n (some (f n))
def oz(f:Nat->AV):∀(n i:Nat),i<n->(dy f n).get i=some (f i)
 | 0,i,h=>by omega
 | n+1,i,h=>by
  unfold dy;by_cases e:i=n
  ·subst e;rw[da]
  ·rw[bm _ _ e];exact oz f n i gt
def CG(f:Nat->AV):∀(n i:Nat),n<=i->(dy f n).get i=none
 | 0,i,_=>get_nil i
 | n+1,i,h=>by
  unfold dy;rw[bm _ _ gt];exact CG f n i gt
def Wv{f:Nat->AV}{n i:Nat}(h:i<n):ev (dy f n) (.tmp i)=some (f i):=by
 simp only[ev,oz f n i h]
def Ur{t:Tr AV}{f:FuncId}:ev t (.func f)=some (.fn (.func f) [] []):=rfl
structure gZ where
 f:Nat->AV
 n:Nat
 h:H
 ds:List jy
def TF(σ:Sg)(f:Nat->AV)(n:Nat)(tmps:Array Value):Prop:=tmps.size=n/\∀i,i<n->V σ (f i) (tmps.getD i undef)
structure SF (σ:Sg) (st:gZ) (a:Act) (w:World):Prop where
 t:TF σ st.f st.n a.tmps
 h:HR σ st.h w
 ds:VA σ st.ds a.defers
def TF.mono{σ σ':Sg}(hle:∀id p,σ id=some p->σ' id=some p){f:Nat->AV}{n:Nat}{tmps:Array Value}(h:TF σ f n tmps):TF σ' f n tmps:=
 ⟨h.1,λi hi=>(h.2 i hi).mono hle⟩
def TF.tr{f:Nat->AV}{n:Nat}{tmps:Array Value}(h:TF σ f n tmps):TR σ (dy f n) n tmps:=by
 refine⟨h.1,λi=>?_⟩
 rcases Nat.lt_or_ge i n with hi | hi
 ·rw[oz f n i hi];exact h.2 i hi
 ·rw[CG f n i hi]
  have:tmps.getD i undef=undef:=by
   rw[ba,dk (by rw[h.1];exact hi)];rfl
  rw[this];exact V.kJ
def TF.put{σ:Sg}{f:Nat->AV}{n:Nat}{a:Act}(h:TF σ f n a.tmps){d:Option Tmp}{x:AV}{v:Value}(hd:∀k,d=some k->k<n)(hv:V σ x v):TF σ (KD f d x) n (a.put d v).tmps:=by
 cases d with
 | none=>exact h
 | some d=>
  have:=TR.put (a:=a) h.tr (hd d rfl) hv;refine⟨this.1,λi hi=>?_⟩;have h2:=this.2 i;by_cases e:i=d
  ·subst e;rw[da] at h2;rw[show KD f (some i) x i=x from wW _ _ _];exact h2
  ·rw[bm _ _ e,oz f n i hi] at h2;rw[show KD f (some d) x i=f i from tI _ _ e];exact h2
variable{st:gZ}
def SF.sr{a:Act}{w:World}(h:SF σ st a w):SR σ ⟨dy st.f st.n,st.n,st.h,st.ds⟩ a w:=⟨h.t.tr,h.h,h.ds⟩
def yB(d:Option Tmp)(n:Nat):Bool:=match d with
 | none=>true
 | some d=>blt d n
def Ig{d:Option Tmp}{n:Nat}(h:yB d n=true):∀k,d=some k->k<n:=by
 intro k e;subst e;exact fY h
def SF.put{σ σ':Sg}{f:Nat->AV}{n:Nat}{h h':H}{ds:List jy}{a:Act}{w w':World}(hs:SF σ ⟨f,n,h,ds⟩ a w)(hle:∀id p,σ id=some p->σ' id=some p){d:Option Tmp}(hd:yB d n=true){x:AV}{v:Value}(hv:V σ' x v)(hr:HR σ' h' w'):
 SF σ' ⟨KD f d x,n,h',ds⟩ (a.put d v) w':=
 ⟨(hs.t.mono hle).put (Ig hd) hv,hr,by rw[put_defers];exact hs.ds.mono hle⟩
def HI(P:Program)(ro:Option Nat)(o:Oper)(st:gZ)(K:gZ->Prop):Prop:=∀(F:Fence) (n:Nat) (σ:Sg) (a:Act) (w:World) (next:Act->World->Prop) (Q:Exit->Act->World->Prop),SF σ st a w->Fx σ ro F->
 (∀st' a' w' σ',K st'->SF σ' st' a' w'->Ext σ σ' st.h st'.h w w'->st'.n=st.n->next a' w')->o.wpIn F n P a w next Q
def tv:Op->Bool
 | .defer _=>false
 | _=>true
def leaves(f:Nat->AV)(n:Nat)(ds:List jy)(d:Option Tmp)(x:Option AV×H):gZ:=⟨KD f d (match x.1 with | some v=>v | none=>kJ),n,x.2,ds⟩
variable{ds:List jy}
def HI.run{o:Oper}{f:Nat->AV}{m:Nat}{K:gZ->Prop}(hnd:tv o.op=true)(hd:yB o.dst m=true)(ho:eS P (dy f m) h o.op=some outs)
 (hk:∀x∈outs,K (leaves f m ds o.dst x)):HI P ro o ⟨f,m,h,ds⟩ K:=by
 intro F n σ a w next Q hs hF hnext
 refine⟨λf _=>hF.fn f,?_⟩;have hρ:=hs.sr.t.ev;have hsem:o.semAt F.round a.eval=execOp a.eval o:=Oper.semAt_eq _ _ _ (λc' hc'=>by rw[hc'] at hnd;simp[tv] at hnd);rw[hsem];obtain⟨r,h',hm,σ',x,w',hrun,hres,hh',hext⟩:=U3 (P:=P) hρ hs.h ho;rw[hrun];have hkk:=hk _ hm
 cases r with
 | some av=>
  obtain⟨v,rfl,hV⟩:=hres;exact hnext _ _ w' σ' hkk (hs.put hext.le hd hV hh') hext rfl
 | none=>
  have hres:x=.skip:=hres;subst hres;exact hnext _ _ w' σ' hkk (hs.put hext.le hd V.kJ hh') hext rfl
def HI.call{o:Oper}{f:Nat->AV}{m:Nat}{K:gZ->Prop}{c:Call}{g:Fn}{Q':AV->H->Prop}(hop:o.op=.call c)(hdy:gG (.call c)=true)(hd:yB o.dst m=true)(hc:qW P (dy f m) c=some (g,xs,cap))
 (hq:dK P g (xs++cap) h Q') (hk:∀v h',Q' v h'->K ⟨KD f o.dst v,m,h',ds⟩):HI P ro o ⟨f,m,h,ds⟩ K:=by
 intro F n σ a w next Q hs hF hnext
 refine⟨λf _=>hF.fn f,?_⟩;have hρ:=hs.sr.t.ev;have hsem:o.semAt F.round a.eval=execOp a.eval o:=Oper.semAt_eq _ _ _ (λc' hc'=>by rw[hop] at hc';cases hc');rw[hsem]
 have hexec:(execOp a.eval o).run P w=((do let d <-resolve a.eval c o.type;invoke d.target d.args):Sem Next).run P w:=by
  cases c with
  | mk callee args ats=>cases callee with
   | builtin b=>simp[gG] at hdy
   | value g=>simp only[execOp,hop]
   | invoke r m=>simp only[execOp,hop]
 have fin:∀r,Fy P r (HK σ h w Q')->o.uponIn F n P a next Q r:=by
  intro r hf;refine Vv hF hf ?_;rintro v w' ⟨av,h',hm,σ',hV,hh',hext⟩;exact hnext _ _ w' σ' (hk _ _ hm) (hs.put hext.le hd hV hh') hext rfl
 rw[hexec]
 rcases K3 hc hρ o.type (w:=w) with⟨g,args',rfl,hv,he⟩ | ⟨id,p,args',rfl,hp,hv,he⟩ | ⟨h1,h2⟩
 ·rw[he];exact fin _ (hq _ _ _ hv hs.h)
 ·rw[he];exact fin _ (hq _ _ _ _ hp hv hs.h)
 ·cases g with
  | func g=>exact t7 rfl (h1 g)
  | yield id=>exact t7 rfl (h2 id)
  | _=>exact hq.elim
def jz(P:Program)(ro:Option Nat)(all l:List Oper)(st:gZ)(K:gZ->Prop):Prop:=∀(ops:Array Oper) (i:Nat),ops.toList=all->ops.toList.drop i=l->∀(F:Fence) (n:Nat) (σ:Sg) (a:Act) (w:World) (Q:Exit->Act->World->Prop),
 SF σ st a w->Fx σ ro F->(∀st' a' w' σ',K st'->SF σ' st' a' w'->Ext σ σ' st.h st'.h w w'->st'.n=st.n->Q .normal a' w')->wpOpsIn F n P ops Q (List.range' i l.length) a w
variable{all:List Oper}
def jz.nil{K:gZ->Prop}(h:K st):jz P ro all [] st K:=
 λ_ _ _ _ _ _ σ a w _ hs _ hQ=>hQ st a w σ h hs (.refl _ _ _) rfl
variable{l:List Oper}
def DY{ops:Array Oper}{i:Nat}{o:Oper}(hd:ops.toList.drop i=o::l):ops[i]?=some o/\ops.toList.drop (i+1)=l:=by
 refine⟨?_,?_⟩
 ·rw[<-ac];have:=n9 (λl=>l[0]?) hd;simpa using this
 ·have:=n9 List.tail hd;simpa [List.tail_drop] using this
def lC(ops:List Oper)(f:Nat->AV)(n:Nat)(o:Oper):Option Bool:=match o.guard with
 | none=>some true
 | some (j,want)=>match (ops[j]?).bind (·.dst) with
  | some d=>_root_.cond (blt d n) (match f d with
   | .bool b=>some (b==want)
   | .bB []=>some false
   | _=>none) none
  | none=>none
def Fu{ops:List Oper}{f:Nat->AV}{n:Nat}{o:Oper}{b:Bool}(h:lC ops f n o=some b):wY ops (dy f n) n o=some b:=by
 unfold lC at h;unfold wY;split at h
 ·rename_i hg;rw[hg];exact h
 ·rename_i j want hg;rw[hg];simp only;split at h
  ·rename_i d hd;obtain⟨hlt,h2⟩:=aI h;rw[hd];simp only;rw[hlt,ah,oz f n d (fY hlt)];split at h2
   ·rename_i x hx;rw[hx];exact h2
   ·rename_i hx;rw[hx];exact h2
   ·simp at h2
  ·simp at h
def jz.cons{o:Oper}{K:gZ->Prop}(hw:lC all st.f st.n o=some true)(h:HI P ro o st (λst'=>jz P ro all l st' K)):jz P ro all (o::l) st K:=by
 intro ops i ha hdd F n σ a w Q hs hF hQ;obtain⟨hoi,hdr⟩:=DY hdd;rw[i7,fb];simp only[wpOpsIn,hoi];have hwt:=C4 (by rw[ha];exact Fu hw) hs.t.tr;rw[hwt];simp only[if_true];refine h F n σ a w _ Q hs hF ?_;intro st' a' w' σ' hK hs' hE' hn';exact hK ops (i+1) ha hdr F n σ' a' w' Q hs' (hF.mono hE'.le) λst'' a'' w'' σ'' h1 h2 h3 h4=>hQ st'' a'' w'' σ'' h1 h2 (hE'.trans h3) (h4.trans hn')
def jz.skip{o:Oper}{f:Nat->AV}{m:Nat}{K:gZ->Prop}(hw:lC all f m o=some false)(hd:yB o.dst m=true)(hk:jz P ro all l ⟨KD f o.dst kJ,m,h,ds⟩ K):jz P ro all (o::l) ⟨f,m,h,ds⟩ K:=by
 intro ops i ha hdd F n σ a w Q hs hF hQ;obtain⟨hoi,hdr⟩:=DY hdd;rw[i7,fb];simp only[wpOpsIn,hoi];have hwt:=C4 (by rw[ha];exact Fu hw) hs.t.tr;rw[hwt];simp only[be,if_false];refine⟨λf _=>hF.fn f,?_⟩;exact hk ops (i+1) ha hdr F n σ _ w Q (hs.put (λ_ _ h=>h) hd V.kJ hs.h) hF λst'' a'' w'' σ'' h1 h2 h3 h4=>hQ st'' a'' w'' σ'' h1 h2 h3 h4
def DP(σ:Sg)(h:H)(w:World)(N:Nat)(Q:Ex->gZ->Prop):Exit->Act->World->Prop:=λe a' w'=>
 ∃ex st',Q ex st'/\Zz ex e/\∃σ',SF σ' st' a' w'/\Ext σ σ' h st'.h w w'/\st'.n=N
def l9(P:Program)(ro:Option Nat)(c:Code)(st:gZ)(Q:Ex->gZ->Prop):Prop:=∀(F:Fence) (n:Nat) (σ:Sg) (a:Act) (w:World),SF σ st a w->Fx σ ro F->c.wpIn F n P (DP σ st.h w st.n Q) a w
variable{Q:Ex->gZ->Prop}
def l9.wide{c:Code}(h:l9 P ro c st Q){n:Nat}{σ0:Sg}{a:Act}{w w0:World}{h0:H}{N:Nat}(hs:SF σ st a w)(hF:Fx σ ro F)(hE:Ext σ0 σ h0 st.h w0 w)(hN:st.n=N):
 c.wpIn F n P (DP σ0 h0 w0 N Q) a w:=
 wpIn_mono (h F n σ a w hs hF) λ_ _ _ ⟨ex,st',h1,h2,σ',h3,h4,h5⟩=>⟨ex,st',h1,h2,σ',h3,hE.trans h4,h5.trans hN⟩
def l9.mono{c:Code}{Q':Ex->gZ->Prop}(h:l9 P ro c st Q)(hq:∀e x,Q e x->Q' e x):l9 P ro c st Q':=
 λF n σ a w hs hF=>wpIn_mono (h F n σ a w hs hF) λ_ _ _ ⟨ex,st',h1,h2⟩=>⟨ex,st',hq _ _ h1,h2⟩
def l9.skip{P:Program}{ro:Option Nat}{st:gZ}{Q:Ex->gZ->Prop}(h:Q .normal st):l9 P ro .skip st Q:=λ_ _ _ _ _ hs _=>wpIn_skip ⟨.normal,st,h,rfl,_,hs,.refl _ _ _,rfl⟩
def l9.label{P:Program}{ro:Option Nat}{l:Nat}{st:gZ}{Q:Ex->gZ->Prop}(h:Q .normal st):l9 P ro (.label l) st Q:=λ_ _ _ _ _ hs _=>wpIn_label ⟨.normal,st,h,rfl,_,hs,.refl _ _ _,rfl⟩
def l9.exit{P:Program}{ro:Option Nat}{id:Nat}{st:gZ}{Q:Ex->gZ->Prop}(h:Q (.exit id) st):l9 P ro (.exit id) st Q:=λ_ _ _ _ _ hs _=>wpIn_exit ⟨.exit id,st,h,rfl,_,hs,.refl _ _ _,rfl⟩
def l9.ret{P:Program}{ro:Option Nat}{st:gZ}{Q:Ex->gZ->Prop}(h:Q .ret st):l9 P ro .ret st Q:=λ_ _ _ _ _ hs _=>wpIn_ret ⟨.ret,st,h,rfl,_,hs,.refl _ _ _,rfl⟩
def l9.region{P:Program}{ro:Option Nat}{id:Nat}{ops:Array Oper}{st:gZ}{Q:Ex->gZ->Prop}(h:jz P ro ops.toList ops.toList st (Q .normal)):l9 P ro (.region id ops false) st Q:=by
 intro F n σ a w hs hF;refine wpIn_region ?_;have:=h ops 0 rfl rfl F n σ a w (DP σ st.h w st.n Q) hs hF λst' a' w' σ' h1 h2 h3 h4=>⟨.normal,st',h1,rfl,σ',h2,h3,h4⟩;rw[List.range_eq_range'];simpa using this
def Yv(P:Program)(ro:Option Nat)(y:Code)(Q:Ex->gZ->Prop):Ex->gZ->Prop
 | .normal,st=>l9 P ro y st Q
 | e,st=>Q e st
def l9.seq{P:Program}{ro:Option Nat}{x y:Code}{st:gZ}{Q:Ex->gZ->Prop}(h:l9 P ro x st (Yv P ro y Q)):l9 P ro (.seq x y) st Q:=by
 intro F n σ a w hs hF;refine wpIn_seq (wpIn_mono (h F n σ a w hs hF) ?_);rintro e a' w' ⟨ex,st',hq,hex,σ',hs',hE',hn'⟩
 cases ex with
 | normal=>
  have:e=.normal:=hex;subst this;exact l9.wide (st:=st') hq hs' (hF.mono hE'.le) hE' hn'
 | ret=>
  have:e=.ret:=hex;subst this;exact⟨_,st',hq,rfl,σ',hs',hE',hn'⟩
 | exit id=>
  have:e=.exit id:=hex;subst this;exact⟨_,st',hq,rfl,σ',hs',hE',hn'⟩
 | goto l=>
  have:e=.goto l:=hex;subst this;exact⟨_,st',hq,rfl,σ',hs',hE',hn'⟩
def l9.cond{P:Program}{ro:Option Nat}{c:Operand}{x y:Code}{st:gZ}{Q:Ex->gZ->Prop}{b:Bool}(hc:ev (dy st.f st.n) c=some (.bool b))(h1:b=true->l9 P ro x st Q)(h2:b=false->l9 P ro y st Q):l9 P ro (.cond c x y) st Q:=by
 intro F n σ a w hs hF;have hv:=hs.sr.t.ev _ _ hc;generalize hg:a.eval c=v at hv;cases hv;cases b
 ·exact wpIn_cond_false hg (h2 rfl F n σ a w hs hF)
 ·exact wpIn_cond_true hg (h1 rfl F n σ a w hs hF)
def QL(id:Nat)(Q:Ex->gZ->Prop):Ex->gZ->Prop
 | .exit i,st=>if i=id then Q .normal st else Q (.exit i) st
 | e,st=>Q e st
def l9.block{P:Program}{ro:Option Nat}{id:Nat}{x:Code}{st:gZ}{Q:Ex->gZ->Prop}(h:l9 P ro x st (QL id Q)):l9 P ro (.block id x) st Q:=by
 intro F n σ a w hs hF;refine wpIn_block (wpIn_mono (h F n σ a w hs hF) ?_);rintro e a' w' ⟨ex,st',hq,hex,σ',hs',hE',hn'⟩
 cases ex with
 | normal=>
  have:e=.normal:=hex;subst this;exact⟨_,st',hq,rfl,σ',hs',hE',hn'⟩
 | ret=>
  have:e=.ret:=hex;subst this;exact⟨_,st',hq,rfl,σ',hs',hE',hn'⟩
 | goto l=>
  have:e=.goto l:=hex;subst this;exact⟨_,st',hq,rfl,σ',hs',hE',hn'⟩
 | exit id'=>
  have:e=.exit id':=hex;subst this;simp only[Exit.inBlock];simp only[QL] at hq;by_cases hb:id'=id
  ·rw[t8 hb] at hq ⊢;exact⟨_,st',hq,rfl,σ',hs',hE',hn'⟩
  ·rw[ul hb] at hq ⊢;exact⟨_,st',hq,rfl,σ',hs',hE',hn'⟩
def tZ{F:Fence}{n:Nat}{P:Program}{c:Code}{Q:Exit->Act->World->Prop}:∀{k m:Nat},k<=m->∀{a:Act} {w:World},Code.roundsIn F n P c Q k a w->Code.roundsIn F n P c Q m a w
 | 0,_,_,_,_,h=>h.elim
 | k+1,0,hk,_,_,_=>by omega
 | k+1,m+1,hk,a,w,h=>by
  rw[roundsIn_succ] at h ⊢;refine wpIn_mono h λe a w hq=>?_
  cases e with
  | normal=>exact tZ gt hq
  | _=>exact hq
def Round(I:Nat->gZ->Prop)(m:Nat)(Q:Ex->gZ->Prop):Ex->gZ->Prop
 | .normal,st=>∃k,k<m/\I k st
 | e,st=>Q e st
def l9.loop{P:Program}{ro:Option Nat}{x:Code}{st:gZ}{Q:Ex->gZ->Prop}(I:Nat->gZ->Prop)(m:Nat)(h0:I m st)(h:∀m st,I m st->l9 P ro x st (Round I m Q)):l9 P ro (.loop x) st Q:=by
 intro F n σ a w hs hF
 have key:∀(m:Nat) (st1:gZ),I m st1->st1.n=st.n->∀(σ1:Sg) (a1:Act) (w1:World),SF σ1 st1 a1 w1->Ext σ σ1 st.h st1.h w w1->Code.roundsIn F n P x (DP σ st.h w st.n Q) (m+1) a1 w1:=by
  intro m
  induction m using Nat.strongRecOn with
  | _ m ih=>
   intro st1 hI hn1 σ1 a1 w1 hs1 hE1;rw[roundsIn_succ];refine wpIn_mono (l9.wide (h m st1 hI) hs1 (hF.mono hE1.le) hE1 hn1) ?_;rintro e a' w' ⟨ex,st',hq,hex,σ',hs',hE',hn'⟩
   cases ex with
   | normal=>
    have:e=.normal:=hex;subst this;obtain⟨k,hk,hI'⟩:=hq;exact tZ gt (ih k hk st' hI' hn' σ' a' w' hs' hE')
   | ret=>
    have:e=.ret:=hex;subst this;exact⟨_,st',hq,rfl,σ',hs',hE',hn'⟩
   | goto l=>
    have:e=.goto l:=hex;subst this;exact⟨_,st',hq,rfl,σ',hs',hE',hn'⟩
   | exit id'=>
    have:e=.exit id':=hex;subst this;exact⟨_,st',hq,rfl,σ',hs',hE',hn'⟩
 exact wpIn_loop_rounds (m+1) (key m st h0 rfl σ a w hs (.refl _ _ _))
def Wj(Q:Ex->gZ->Prop):Ex->gZ->Prop
 | .goto _,_=>False
 | e,st=>Q e st
def l9.scope{P:Program}{ro:Option Nat}{x:Code}{st:gZ}{Q:Ex->gZ->Prop}(h:l9 P ro x st (Wj Q)):l9 P ro (.scope x) st Q:=by
 intro F n σ a w hs hF;refine M9 (wpIn_mono (h F n σ a w hs hF) ?_);rintro e a' w' ⟨ex,st',hq,hex,σ',hs',hE',hn'⟩
 cases ex with
 | normal=>
  have:e=.normal:=hex;subst this;exact⟨by simp,_,st',hq,rfl,σ',hs',hE',hn'⟩
 | ret=>
  have:e=.ret:=hex;subst this;exact⟨by simp,_,st',hq,rfl,σ',hs',hE',hn'⟩
 | goto l=>exact hq.elim
 | exit id'=>
  have:e=.exit id':=hex;subst this;exact⟨by simp,_,st',hq,rfl,σ',hs',hE',hn'⟩
def tM(args:List AV):Nat->AV:=λi=>match args[i]? with
 | some v=>v
 | none=>kJ
def Ni{args:List AV}(h:VL σ args args'.toList)(nt:Nat):TF σ (tM args) (args.length+(nt-args.length)) (args'++fx (nt-args'.size) undef):=by
 have ht:=Rx h nt;refine⟨ht.1,λi hi=>?_⟩;have:=ht.2 i;rw[uh] at this;unfold tM;by_cases hl:i<args.length
 ·rw[t8 gt] at this;rw[co] at this
  cases hx:args[i]? with
  | none=>rw[List.getElem?_eq_none_iff] at hx;omega
  | some v=>rw[hx] at this;exact this
 ·rw[ul gt,get_nil] at this;rw[a9 gt];exact this
theorem jz.v{o:Oper}{f:Nat->AV}{n:Nat}{K:gZ->Prop}{op:Op}{v:AV}(hop:o.op=op)(hdst:o.dst=some d)(hw:lC all f n o=some true)(hnd:tv op=true)(hd:blt d n=true)
 (ho:eS P (dy f n) h op=some [(some v,h')]) (hk:jz P ro all l ⟨C6 f d v,n,h',ds⟩ K):jz P ro all (o::l) ⟨f,n,h,ds⟩ K:=by
 refine .cons hw (.run (by rw[hop];exact hnd) (by rw[hdst];exact hd) (by rw[hop];exact ho) ?_);intro x hx;rw[rc hx,hdst];exact hk
theorem jz.u{o:Oper}{f:Nat->AV}{n:Nat}{K:gZ->Prop}{op:Op}(hop:o.op=op)(hdst:o.dst=none)(hw:lC all f n o=some true)(hnd:tv op=true)
 {r:Option AV} (ho:eS P (dy f n) h op=some [(r,h')]) (hk:jz P ro all l ⟨f,n,h',ds⟩ K):jz P ro all (o::l) ⟨f,n,h,ds⟩ K:=by
 refine .cons hw (.run (by rw[hop];exact hnd) (by rw[hdst];rfl) (by rw[hop];exact ho) ?_);intro x hx;rw[rc hx,hdst];exact hk
theorem jz.s{o:Oper}{f:Nat->AV}{n:Nat}{K:gZ->Prop}(hdst:o.dst=some d)(hw:lC all f n o=some false)(hd:blt d n=true)
 (hk:jz P ro all l ⟨C6 f d kJ,n,h,ds⟩ K):jz P ro all (o::l) ⟨f,n,h,ds⟩ K:=by
 refine .skip hw (by rw[hdst];exact hd) ?_;rw[hdst];exact hk
theorem jz.c{o:Oper}{f:Nat->AV}{n:Nat}{K:gZ->Prop}{c:Call}{g:Fn}{ys:List AV}{Q:AV->H->Prop}(hop:o.op=.call c)(hdst:o.dst=some d)(hw:lC all f n o=some true)(hdy:gG (.call c)=true)(hd:blt d n=true)
 (hc:qW P (dy f n) c=some (g,xs,cap)) (hys:xs++cap=ys) (hq:dK P g ys h Q) (hk:∀v h',Q v h'->jz P ro all l ⟨C6 f d v,n,h',ds⟩ K):jz P ro all (o::l) ⟨f,n,h,ds⟩ K:=by
 subst hys;refine .cons hw (.call hop hdy (by rw[hdst];exact hd) hc hq ?_);intro v h' hv;rw[hdst];exact hk v h' hv
def ff(a b:Int):qK a b=decide (a<=b):=by
 unfold qK
 rcases hb:b-a with m | m
 ·have h2:b-a=(m:Int):=hb
  have:a<=b:=by omega
  simp[this]
 ·have h2:b-a = -((m:Int)+1):=by rw[hb,Int.negSucc_eq]
  have:¬a<=b:=by omega
  simp[this]
def not_le(a b:Int):(!decide (a<=b))=decide (b<a):=by
 by_cases h:a<=b
 ·have:¬b<a:=by omega
  simp[h,this]
 ·have:b<a:=by omega
  simp[h,this]
def Bp(a b:Int):Uq a b=decide (a=b):=by
 unfold Uq;rw[ff,ff];by_cases h:a=b
 ·subst h;simp
 ·have:¬(a<=b/\b<=a):=by omega
  simp only[h,decide_false];by_cases h1:a<=b
  ·have:¬b<=a:=by omega
   simp[this]
  ·simp[h1]
def nT:∀(a b:List Nat),xc a b=decide (a=b)
 | [],[]=>rfl
 | [],_::_=>rfl
 | _::_,[]=>rfl
 | x::a,y::b=>by
  have:=nT a b;simp only[xc,this];by_cases h:x=y
  ·subst h;simp
  ·have:beq x y=false:=by
    cases hb:beq x y
    ·rfl
    ·exact t7 (cZ hb) h
   simp[this,h]
def No{P:Program}{t:TypeId}{a b:Int}{k:IntKind}(hk:BQ k k=true):cW P .lss t (.int k a) (.int k b)=some (.bool (decide (a<b))):=by
 simp only[cW,hk,ah,FP,ff,not_le]
def FH{P:Program}{t:TypeId}{a b:Int}{k:IntKind}(hk:BQ k k=true):cW P .leq t (.int k a) (.int k b)=some (.bool (decide (a<=b))):=by
 simp only[cW,hk,ah,FP,ff]
def Nn{P:Program}{t:TypeId}{a b:Int}{k:IntKind}(hk:BQ k k=true):cW P .gtr t (.int k a) (.int k b)=some (.bool (decide (b<a))):=by
 simp only[cW,hk,ah,FP,ff,not_le]
def Nl{P:Program}{t:TypeId}{a b:Int}{k:IntKind}(hk:BQ k k=true):cW P .geq t (.int k a) (.int k b)=some (.bool (decide (b<=a))):=by
 simp only[cW,hk,ah,FP,ff]
def FG{P:Program}{t:TypeId}{a b:Int}{k:IntKind}(hk:BQ k k=true):cW P .eql t (.int k a) (.int k b)=some (.bool (decide (a=b))):=by
 simp only[cW,hk,ah,FP,Bp]
def vc{P:Program}{t:TypeId}{a b:Int}{k:IntKind}(hk:BQ k k=true):cW P .neq t (.int k a) (.int k b)=some (.bool (!decide (a=b))):=by
 simp only[cW,hk,ah,FP,Bp]
variable{t:TypeId}
def qT{a b:Int}(h : -9223372036854775808<=a+b/\a+b<=9223372036854775807):cW P .add t (.int .i64 a) (.int .i64 b)=some (.int .i64 (a+b)):=by
 have h1:(qK (-9223372036854775808) (a+b)&&qK (a+b) 9223372036854775807)=true:=by
  rw[ff,ff];simp[h.1,h.2]
 simp only[cW,BQ,ah,dJ,KR,KP,h1]
def AF{a b:Int}(h : -9223372036854775808<=a-b/\a-b<=9223372036854775807):cW P .sub t (.int .i64 a) (.int .i64 b)=some (.int .i64 (a-b)):=by
 have h1:(qK (-9223372036854775808) (a-b)&&qK (a-b) 9223372036854775807)=true:=by
  rw[ff,ff];simp[h.1,h.2]
 simp only[cW,BQ,ah,dJ,KR,KP,h1]
def AE{a b:Int}(h : -9223372036854775808<=a*b/\a*b<=9223372036854775807):cW P .mul t (.int .i64 a) (.int .i64 b)=some (.int .i64 (a*b)):=by
 have h1:(qK (-9223372036854775808) (a*b)&&qK (a*b) 9223372036854775807)=true:=by
  rw[ff,ff];simp[h.1,h.2]
 simp only[cW,BQ,ah,dJ,KR,KP,h1]
def Q4{P:Program}{t:TypeId}{a b:List Nat}:cW P .eql t (.str a) (.str b)=some (.bool (decide (a=b))):=by
 simp only[cW,nT]
def Q8{P:Program}{t:TypeId}{a b:List Nat}:cW P .neq t (.str a) (.str b)=some (.bool (!decide (a=b))):=by
 simp only[cW,nT]
def Q7{P:Program}{t:TypeId}{a b:List Nat}:cW P .lss t (.str a) (.str b)=some (.bool (fZ a b)):=rfl
def Q5{P:Program}{t:TypeId}{a b:List Nat}:cW P .gtr t (.str a) (.str b)=some (.bool (!(fZ a b||xc a b))):=rfl
def Bg{P:Program}{t:TypeId}{a b:List Nat}:cW P .geq t (.str a) (.str b)=some (.bool (!fZ a b)):=rfl
def Q6{P:Program}{t:TypeId}{a b:List Nat}:cW P .leq t (.str a) (.str b)=some (.bool (fZ a b||xc a b)):=rfl
def Ei:BQ .i64 .i64=true:=rfl
def Pq:BQ .u8 .u8=true:=rfl
section
variable {P:Program} {t:Tr AV} {h:H}
variable{x:Operand}
def U8:eS P t h (.move x)=(ev t x).map λv=>[(some v,h)]:=rfl
def PV:eS P t h (.assign x)=(ev t x).map λv=>[(some v,h)]:=rfl
noncomputable def SQ(c a b:Option AV):Option AV:=match c,a,b with
 | some (.bool z),some x,some y=>some (_root_.cond z x y)
 | _,_,_=>none
def U9{c a b:Operand}:eS P t h (.pick c a b)=(SQ (ev t c) (ev t a) (ev t b)).map λv=>[(some v,h)]:=by
 simp only[eS];unfold SQ;cases ha:ev t a<;>cases hb:ev t b<;>cases hc:ev t c<;>(try rfl)
 ·rename_i z;cases z<;>rfl
 ·rename_i z;cases z<;>rfl
 ·rename_i z;cases z<;>rfl
 ·rename_i z;cases z<;>(try rfl);rename_i b;cases b<;>rfl
variable{e:TypeId}
def Sy:eS P t h (.alloc e)=(dE P e).map λz=>[(some (.ptr (some (h.next,0))),{ h.lay h.next (.cells z.cells h.next) with next:=h.next+1 })]:=by
 simp only[eS,qO];cases dE P e<;>rfl
def WN:eS P t h (.box e x)=(ev t x).map λv=>[(some (.ptr (some (h.next,0))),{ h.lay h.next (.cells v.cells h.next) with next:=h.next+1 })]:=by
 simp only[eS,qO];cases ev t x<;>rfl
variable{tt:TypeId}
def LU:eS P t h (.makeMap tt none)=some [(some (.map (some h.next)),{ h.lay h.next (.map [] 0) with next:=h.next+1 })]:=rfl
def Dm{n:Nat}{ps:Array (Nat×Operand)}:eS P t h (.buildSlice tt n ps)=((mU t ps.toList).bind λps=>(iN P tt n ps).map λq=>((.slice (some (h.next,0)) n q.1 (some n),.cells q.2 h.next):AV×AO)).map λx=>[(some x.1,{ h.lay h.next x.2 with next:=h.next+1 })]:=by
 simp only[eS,qO]
 cases hp:mU t ps.toList with
 | none=>rfl
 | some l=>cases hb:iN P tt n l<;>simp[hb]
def Sz{ps:Array (Nat×Operand)}:eS P t h (.build tt ps)=((mU t ps.toList).bind λps=>xv P tt ps).map λv=>[(some v,h)]:=rfl
noncomputable def Gb(P:Program)(h:H)(tt:TypeId):Option AV->Option AV
 | some (.ptr (some (id,off)))=>h.load P tt id off
 | _=>none
def U6{a:Operand}:eS P t h (.load tt a)=(Gb P h tt (ev t a)).map λv=>[(some v,h)]:=by
 simp only[eS]
 cases ev t a with
 | none=>rfl
 | some v=>cases v<;>(try rfl);rename_i o;rcases o with _ | ⟨id,off⟩<;>rfl
variable{off:Nat}
def Et:Gb P h tt (some (.ptr (some (id,off))))=h.load P tt id off:=rfl
noncomputable def GW(P:Program)(h:H)(tt:TypeId):Option AV->Option AV->Option H
 | some (.ptr (some (id,off))),some x=>h.storeVar P tt id off x
 | _,_=>none
def SH{a:Operand}:eS P t h (.store tt a x)=(GW P h tt (ev t a) (ev t x)).map λh=>[(none,h)]:=by
 simp only[eS]
 cases ev t a with
 | none=>rfl
 | some v=>cases v<;>(try rfl);rename_i o;rcases o with _ | ⟨id,off⟩<;>(try rfl);cases ev t x<;>rfl
def Mb{x:AV}:GW P h tt (some (.ptr (some (id,off)))) (some x)=h.storeVar P tt id off x:=rfl
variable{xt:TypeId}
def LQ{op:BinOp}{yt:TypeId}{y:Operand}:eS P t h (.binOp op xt x y yt)=((ev t x).bind λx=>(ev t y).bind λy=>cW P op xt x y).map λv=>[(some v,h)]:=rfl
def XO{op:UnOp}:eS P t h (.unOp op xt x)=((ev t x).bind (W5 op)).map λv=>[(some v,h)]:=rfl
def W6{b:Bool}:W5 .not (.bool b)=some (.bool (!b)):=rfl
def U4{s d:TypeId}:eS P t h (.convert s d x)=((ev t x).bind (mu P s d)).map λv=>[(some v,h)]:=rfl
def Gw{s:TypeId}{f:Nat}:eS P t h (.fieldAddr s x f)=((ev t x).bind λx=>kc P s x f).map λv=>[(some v,h)]:=rfl
def SA{s:TypeId}{f:Nat}:eS P t h (.field s x f)=((ev t x).bind λx=>xI P s x f).map λv=>[(some v,h)]:=rfl
def Gx{s:TypeId}{i:Operand}:eS P t h (.indexAddr s x i)=((ev t x).bind λx=>(ev t i).bind λi=>lR P s x i).map λv=>[(some v,h)]:=rfl
def SE{s:TypeId}{i:Operand}:eS P t h (.index s x i)=((ev t x).bind λx=>(ev t i).bind λi=>xS P s x i).map λv=>[(some v,h)]:=rfl
def SG{lo hi mx:Option Operand}:eS P t h (.slice tt x lo hi mx)=((ev t x).bind λx=>(RB t lo).bind λlo=>(RB t hi).bind λhi=>(RB t mx).bind λmx=>yi P h tt x lo hi mx).map λv=>[(some v,h)]:=rfl
variable{k:Operand}
def PW{ok:Bool}:eS P t h (.lookup tt x k ok)=((ev t x).bind λx=>(ev t k).bind λk=>tn P h tt x k ok).map λv=>[(some v,h)]:=rfl
variable{m:Operand}
def Gy:eS P t h (.mapUpdate tt m k x)=((ev t m).bind λm=>(ev t k).bind λk=>(ev t x).bind λx=>lX P h tt m k x).map λh=>[(none,h)]:=rfl
def yP:eS P t h (.mapEntry tt m k)=((ev t m).bind λm=>(ev t k).bind λk=>nM P h tt m k).map λx=>[(some x.1,x.2)]:=rfl
def Dn{s:Operand}:eS P t h (.entryStore tt m s x)=((ev t m).bind λm=>(ev t s).bind λs=>(ev t x).bind λx=>mz h m s x).map λh=>[(none,h)]:=rfl
def Jl:eS P t h (.range tt x)=((ev t x).bind λx=>yf P h tt x).map λx=>[(some x.1,x.2)]:=rfl
def Jk:eS P t h (.entry x)=((ev t x).bind λx=>xG h x).map λv=>[(some v,h)]:=rfl
noncomputable def D0(i:Nat):Option AV->Option AV
 | some (.bB vs)=>vs[i]?
 | _=>none
def LS{i:Nat}:eS P t h (.extract x i)=(D0 i (ev t x)).map λv=>[(some v,h)]:=by
 simp only[eS]
 cases ev t x with
 | none=>rfl
 | some v=>cases v<;>rfl
def SB{d:TypeDesc}(hd:P.underlying xt=some d)(hi:(match d with | .interface _=>false | _=>true)=true):eS P t h (.makeInterface xt x)=(ev t x).map λv=>[(some (.iface xt v),h)]:=by
 simp only[eS,hd]
 cases d<;>first | (simp at hi;done) | (cases ev t x<;>rfl)
def U5{g:FuncId}{first cap:Array Operand}:eS P t h (.makeFunc (.func g) first cap)=((Aj t first.toList).bind λa=>(Aj t cap.toList).map λb=>AV.fn (.func g) a b).map λv=>[(some v,h)]:=rfl
def LR{b:Builtin}{aS:Array Operand}{ats:Array TypeId}:eS P t h (.call { callee:=.builtin b,args:=aS,argTypes:=ats })=((Aj t aS.toList).bind λxs=>nS P h b ats.toList xs).map λx=>[(some x.1,x.2)]:=rfl
def nr{tt:TypeId}(hu:P.underlying tt=some .string){s:List Nat}:IL P h tt (.str s)=some (.int .i64 (s.length:Int)):=by
 simp only[IL,hu,m6,Int.ofNat_eq_natCast]
end
def RC(t:Tr AV)(x:Operand)(l:List Operand):Aj t (x::l)=(ev t x).bind λa=>(Aj t l).map λb=>a::b:=by
 simp only[Aj,c3]
 cases ev t x with
 | none=>rfl
 | some a=>cases h:mapM (ev t) l<;>simp_all
def Jp(t:Tr AV)(i:Nat)(x:Operand)(l:List (Nat×Operand)):mU t ((i,x)::l)=(ev t x).bind λa=>(mU t l).map λb=>(i,a)::b:=by
 simp only[mU,c3]
 cases ev t x with
 | none=>rfl
 | some a=>cases h:mapM (λp:Nat×Operand=>Option.map (λv=>(p.1,v)) (ev t p.2)) l<;>simp_all
def jX(a b:Nat):decide ((a:Int)<=(b:Int))=ble a b:=by
 by_cases h:a<=b
 ·have:(a:Int)<=b:=by omega
  simp[this,fH h]
 ·have h2:¬(a:Int)<=b:=by omega
  have:ble a b=false:=by
   cases hb:ble a b
   ·rfl
   ·exact t7 (j8 hb) h
  simp[h2,this]
def Un(a b:Nat):decide ((a:Int)=(b:Int))=beq a b:=by
 by_cases h:a=b
 ·subst h;simp
 ·have h2:¬(a:Int)=b:=by omega
  have:beq a b=false:=by
   cases hb:beq a b
   ·rfl
   ·exact t7 (cZ hb) h
  simp[h2,this]
noncomputable def Yq:Option AV->AV
 | some v=>v
 | none=>kJ
structure Dq where
 f:Nat->AV
 c:H
 xs:List (Nat×AO)
 al:List (Nat×AO)
 m:Nat
 cs:List (Nat×Nat×H)
 rd:List (Nat×(H->R (Option AV×H))×AV)
def YO:AO->Option (List AV)
 | .cells cs _=>some cs
 | .ro cs=>some cs
 | _=>none
def tS(o:Tr AO)(id:Nat):Option (List AV):=(o.get id).bind YO
def mP(cs:List AV)(off n:Nat):Option (List AV):=cond (ble (off+n) cs.length) (some ((cs.drop off).take n)) none
section
variable {P:Program} {h:H}
variable{off:Nat}
def nH{n:Nat}:h.chunk id off n=(tS h.aV id).bind λcs=>mP cs off n:=by
 unfold H.chunk tS
 cases h.aV.get id with
 | none=>rfl
 | some o=>cases o<;>rfl
end
def q9{s:Nat}:∀{rows:List (List AV)},(∀r∈rows,r.length=s)->∀{i:Nat} {r:List AV},rows[i]?=some r->∀{k:Nat},k<s->rows.flatten[i*s+k]?=r[k]?
 | [],_,i,r,hi,k,_=>by simp at hi
 | a::rows,hw,0,r,hi,k,hk=>by
  simp at hi;subst hi;have:=hw a (ap ..);rw[bc,Nat.zero_mul,d6,aO gt]
 | a::rows,hw,i+1,r,hi,k,hk=>by
  rw[aj] at hi;have ha:=hw a (ap ..);have ih:=q9 (λr hr=>hw r (ad _ hr)) hi hk;rw[bc,ay (by rw[ha,cv];omega),ha];rw[show(i+1)*s+k-s=i*s+k by rw[cv];omega];exact ih
def kU{s:Nat}:∀{rows:List (List AV)},(∀r∈rows,r.length=s)->rows.flatten.length=rows.length*s
 | [],_=>by simp
 | a::rows,hw=>by
  have ha:=hw a (ap ..);have ih:=kU (λr hr=>hw r (ad _ hr));rw[bc,li,ih,ha,i7,cv];omega
def Lp{l:List α}{i:Nat}{x:α}(h:l[i]?=some x):i<l.length:=(pp h).1
def DZ(n:Nat)(s:List Nat):iQ (n+1) (.str s) (.str s)=true:=by
 simp only[iQ,nT,decide_true]
def Pd(n:Nat)(k:IntKind)(i:Int):iQ (n+1) (.int k i) (.int k i)=true:=by
 simp only[iQ,Bp,decide_true,Bool.and_true];cases k<;>rfl
def Le(n:Nat)(b:Bool):iQ (n+1) (.bool b) (.bool b)=true:=by
 simp only[iQ,beq_self_eq_true]
def Pc(n:Nat)(l:List AV)(h:iM (iQ n) l l=true):iQ (n+1) (.agg l) (.agg l)=true:=h
def tu{a b:Nat}(h:a<=b):ic a b=a:=by unfold ic;rw[fH h,ah]
def dK.XN{g:FuncId}{k:XK}(hx:C8 P g k){args:List AV}{a:AV}(ha:xA k args h=some (a,h')):dK P (.func g) args h (λa' h''=>a'=a/\h''=h'):=
 λσ w args' hv hr=>(hx args h a h' ha σ w args' hv hr).mono λv w' ⟨a',h'',hm,hg⟩=>⟨a',h'',by simpa using hm,hg⟩
def OU(l:List AV):AV.cells (.agg l)=l:=rfl
section
variable {K U:Type} [DecidableEq K]
def qz(k:K):List (K×U)->Nat->Option Nat
 | [],_=>none
 | e::l,j=>if k=e.1 then some j else qz k l (j+1)
def getM(u0:U)(k:K):List (K×U)->U
 | []=>u0
 | e::l=>if k=e.1 then e.2 else getM u0 k l
def cz(k:K)(l:List (K×U)):Bool:=l.any λe=>decide (k=e.1)
def bU(k:K)(v:U):List (K×U)->List (K×U)
 | []=>[(k,v)]
 | e::l=>if k=e.1 then (k,v)::l else e::bU k v l
def gE(u0:U)(k:K)(l:List (K×U)):List (K×U):=if cz k l then l else l++[(k,u0)]
def jt{k:K}:∀{l:List (K×U)} {j:Nat},qz k l j=none->cz k l=false
 | [],_,_=>rfl
 | e::l,j,h=>by
  unfold qz at h;split at h
  ·cases h
  ·rename_i hne;have:=jt h;simp only[cz,bZ,hne,decide_false,Bool.false_or] at this ⊢;exact this
def iw{k:K}:∀{l:List (K×U)} {j i:Nat},qz k l j=some i->j<=i/\∃u,l[i-j]?=some (k,u)/\(∀u0,getM u0 k l=u)/\(∀v,bU k v l=l.set (i-j) (k,v))/\cz k l=true
 | [],_,_,h=>by cases h
 | e::l,j,i,h=>by
  unfold qz at h;split at h
  ·rename_i he;cases h;refine⟨Nat.le_refl _,e.2,?_,λu0=>?_,λv=>?_,?_⟩
   ·rw[Nat.sub_self,List.getElem?_cons_zero];rw[he]
   ·simp only[getM,he,if_true]
   ·rw[Nat.sub_self];simp only[bU,he,if_true,List.set_cons_zero]
   ·simp only[cz,List.any_cons,he,decide_true,Bool.true_or]
  ·rename_i hne;obtain⟨h1,u,h2,h3,h4,h5⟩:=iw h
   have e1:i-j=(i-(j+1))+1:=by omega
   refine⟨by omega,u,?_,λu0=>?_,λv=>?_,?_⟩
   ·rw[e1,List.getElem?_cons_succ];exact h2
   ·simp only[getM,hne,if_false];exact h3 u0
   ·rw[e1];simp only[bU,hne,if_false,List.set_cons_succ];rw[h4]
   ·simp only[cz,List.any_cons] at h5 ⊢;rw[h5,Bool.or_true]
def qf{u0:U}{k:K}:∀{l:List (K×U)},cz k l=false->getM u0 k l=u0
 | [],_=>rfl
 | e::l,h=>by
  simp only[cz,bZ,bx,wd] at h;unfold getM;rw[ul h.1];exact qf h.2
def mH{k:K}{v:U}:∀{l:List (K×U)},cz k l=false->bU k v l=l++[(k,v)]
 | [],_=>rfl
 | e::l,h=>by
  simp only[cz,bZ,bx,wd] at h;unfold bU;rw[ul h.1,mH h.2];rfl
def di(u0:U)(k k':K)(v:U):∀(l:List (K×U)),getM u0 k' (bU k v l)=if k'=k then v else getM u0 k' l
 | []=>by simp only[bU,getM]
 | e::l=>by
  unfold bU;by_cases h:k=e.1
  ·rw[t8 h];unfold getM;by_cases h2:k'=k
   ·rw[t8 h2,t8 h2]
   ·rw[ul h2,ul h2,ul (by rw[<-h];exact h2)]
  ·rw[ul h];unfold getM;by_cases h2:k'=e.1
   ·rw[t8 h2,t8 h2,ul (λe2=>h (e2.symm.trans h2))]
   ·rw[ul h2,ul h2];exact di u0 k k' v l
def qh(k k':K)(v:U):∀(l:List (K×U)),cz k' (bU k v l)=(decide (k'=k)||cz k' l)
 | []=>by simp[bU,cz]
 | e::l=>by
  have ih:=qh k k' v l;unfold bU;by_cases h:k=e.1
  ·rw[t8 h];simp only[cz,bZ,h,<-er,Bool.or_self]
  ·rw[ul h];simp only[cz,bZ] at ih ⊢;rw[ih,<-er,<-er,Bool.or_comm (decide (k'=e.1))]
def vB{k:K}{l:List (K×U)}:cz k l=true↔k∈l.map (·.1):=by
 simp only[cz,List.any_eq_true,wp,mem_map];exact⟨λ⟨x,h1,h2⟩=>⟨x,h1,h2.symm⟩,λ⟨x,h1,h2⟩=>⟨x,h1,h2.symm⟩⟩
structure Keys (P:Program) (kt:TypeId) (kv:K->AV):Prop where
 eq:∀a b,mL P 4 kt (kv a) (kv b)=some (decide (a=b))
 ck:∀a,vI P kt (kv a)=true
 st:∀a,stays (kv a) (kv a)=true
section
variable {P:Program} {t kt et:TypeId} {kv:K->AV} {uv:U->AV} {u0:U} {h:H} {id:Nat} {l:List (K×U)}
def Js(k:K)(l:List (K×U)):Nat:=match qz k l 0 with
 | some i=>i
 | none=>l.length
def P7(k:K)(v:U):(gE u0 k l).set (Js k l) (k,v)=bU k v l/\Js k l<(gE u0 k l).length/\∃u,(gE u0 k l)[Js k l]?=some (k,u):=by
 unfold gE Js
 cases hp:qz k l 0 with
 | none=>
  have hn:=jt hp;simp only[hn,be,if_false];refine⟨?_,by simp,u0,by simp⟩;rw[mH hn,List.set_append_right _ _ (ax _),cl];rfl
 | some i=>
  obtain⟨_,u,h2,h3,h4,h5⟩:=iw hp;rw[co] at h2;have h4:=h4 v;rw[co] at h4;simp only[h5,if_true];exact⟨h4.symm,Lp h2,u,h2⟩
end
end
def uA{K U:Type}[DecidableEq K](u0:U)(k k':K)(l:List (K×U)):getM u0 k' (gE u0 k l)=getM u0 k' l:=by
 unfold gE;split
 ·rfl
 ·rename_i hn
  have hn:cz k l=false:=by simpa using hn
  have e:l++[(k,u0)]=bU k u0 l:=(mH hn).symm;rw[e,di];split
  ·rename_i he;rw[he,qf hn]
  ·rfl
theorem jz.n{P:Program}{ro:Option Nat}{all:List Oper}{o:Oper}{l:List Oper}{f:Nat->AV}{n:Nat}{h:H}{ds:List jy}{K:gZ->Prop}{d:Nat}{op:Op}{outs:List (Option AV×H)}(hop:o.op=op)(hdst:o.dst=some d)(hw:lC all f n o=some true)(hnd:tv op=true)(hd:blt d n=true)
 (ho:eS P (dy f n) h op=some outs) (hk:∀x∈outs,jz P ro all l ⟨C6 f d (Yq x.1),n,x.2,ds⟩ K):jz P ro all (o::l) ⟨f,n,h,ds⟩ K:=by
 refine .cons hw (.run (by rw[hop];exact hnd) (by rw[hdst];exact hd) (by rw[hop];exact ho) ?_);intro x hx;have:=hk x hx;rw[hdst];obtain⟨v,h'⟩:=x;cases v<;>exact this
def NX{t:Tr AV}{it:Operand}{s:Bool}{a:AV}(ha:ev t it=some a):eS P t h (.next it s)=(B9 h a s).map λl=>l.map λx=>(some x.1,x.2):=by
 simp only[eS,ha]
section
variable {K U:Type} [DecidableEq K] {kv:K->AV} {uv:U->AV}
def bq(l:List (K×U))(seen:List Nat):List (K×U):=seen.filterMap λi=>l[i]?
omit [DecidableEq K] in
def nX{l:List (K×U)}{seen:List Nat}(hn:seen.Nodup)(hl:∀i∈seen,i<l.length)(ha:∀i,i<l.length->i∈seen):(bq l seen).Perm l:=by
 have hp:seen.Perm (bi l.length):=by
  refine(List.perm_ext_iff_of_nodup hn List.nodup_range).2 λi=>?_;rw[mem_range];exact⟨hl i,ha i⟩
 have h2:(bi l.length).filterMap (λi=>l[i]?)=l:=by
  apply List.ext_getElem?;intro j
  have:(bi l.length).filterMap (λi=>l[i]?)=(bi l.length).attach.map λx=>l[x.1]'(mem_range.1 x.2):=by
   have:∀(r:List Nat) (hr:∀i∈r,i<l.length),r.filterMap (λi=>l[i]?)=r.attach.map λx=>l[x.1]'(hr x.1 x.2):=by
    intro r hr
    induction r with
    | nil=>rfl
    | cons a r ih=>
     have ha:=hr a (ap ..);rw[List.filterMap_cons,jp ha];simp only[List.attach_cons,bt,List.map_map];rw[ih λi hi=>hr i (ad _ hi)];rfl
   exact this _ λi hi=>mem_range.1 hi
  rw[this];by_cases hj:j<l.length
  ·rw[bh,jp (by simpa using hj),jp hj];simp
  ·rw[a9 (by simp;omega),a9 gt]
 unfold bq;have:=hp.filterMap λi=>l[i]?;rw[h2] at this;exact this
omit [DecidableEq K] in
def mA(l:List (K×U))(seen:List Nat){i:Nat}{e:K×U}(h:l[i]?=some e):bq l (seen++[i])=bq l seen++[e]:=by
 unfold bq;rw[List.filterMap_append];simp[h]
end
def QK(Z:Nat)(h:H)(v:AV)(s:Nat)(rows:List (List AV)):Prop:=
 (∀r∈rows,r.length=s)/\((rows=[]/\v=.slice none 0 0 (some 0))\/∃id bX x y,rows≠[]/\v=.slice (some (id,0)) rows.length s none/\h.aV.get id=some (.cells rows.flatten bX)/\h.dN.get bX=some (x,y)/\(id=x\/id=y)/\
  Z<=id/\Z<=x/\Z<=y/\Z<=bX/\id<h.next/\x<h.next/\y<h.next/\bX<h.next)
structure Over (Z:Nat) (h h':H):Prop where
 next:h.next<=h'.next
 aV:∀j,j<Z->h'.aV.get j=h.aV.get j
 dN:∀f,f<Z->h'.dN.get f=h.dN.get f
 low:h.low<=Z->h'.low=h.low
def Over.refl(Z:Nat)(h:H):Over Z h h:=⟨ax _,λ_ _=>rfl,λ_ _=>rfl,λ_=>rfl⟩
def Over.trans{Z:Nat}{h h' h'':H}(a:Over Z h h')(b:Over Z h' h''):Over Z h h'':=
 ⟨bv a.next b.next,λj hj=>(b.aV j hj).trans (a.aV j hj),λj hj=>(b.dN j hj).trans (a.dN j hj),λhl=>(b.low (by rw[a.low hl];exact hl)).trans (a.low hl)⟩
variable{bX:Nat}{y:Nat}
def ug{Z:Nat}{x:Nat}(hf:h.dN.get bX=some (x,y))(hx:Z<=x)(hy:Z<=y)(hfm:Z<=bX):Over Z h (h.alone id bX)/\(h.alone id bX).next=h.next:=by
 unfold H.alone;rw[hf];simp only;cases hb:(beq x id&&beq y id)
 ·rw[ar];refine⟨⟨ax _,λj hj=>?_,λf hff=>?_,λhl=>?_⟩,rfl⟩
  ·simp only;cases beq y id
   ·rw[ar];cases beq x id
    ·rw[ar,bm _ _ gt,bm _ _ gt]
    ·rw[ah,bm _ _ gt]
   ·rw[ah,bm _ _ gt]
  ·simp only;rw[bm _ _ gt]
  ·simp only
   have:Z<=ic x y:=by unfold ic;cases ble x y<;>simp<;>assumption
   exact tu gt
 ·rw[ah];exact⟨Over.refl _ _,rfl⟩
variable{e:TypeId}
def HR.rewrite{w w1:World}(hr:HR σ h w){cs cs':List AV}{p:uV}(ho:h.aV.get id=some (.cells cs bX))(hp:σ id=some p)(hlen:cs'.length=cs.length)
 {c c':Array Value} (hb:w.heap[p.b]?=some (.cells c e (0,0))) (hb':w1.heap[p.b]?=some (.cells c' e (0,0))) (hcz:c'.size=c.size) (hV:∀(i:Nat) (a:AV),cs'[i]?=some a->∃v,c'[p.d+i]?=some v/\V σ a v)
 (hoth:∀b,b≠p.b->w1.heap[b]?=w.heap[b]?) (hs:w1.heap.size=w.heap.size) (e1:w1.os=w.os) (e2:w1.tape=w.tape) (e3:w1.output=w.output):
 HR σ { h.alone id bX with aV:=(h.alone id bX).aV.put id (some (.cells cs' bX)),low:=ic (h.alone id bX).low id } w1/\
 Ext σ σ h { h.alone id bX with aV:=(h.alone id bX).aV.put id (some (.cells cs' bX)),low:=ic (h.alone id bX).low id } w w1:=by
 obtain⟨q,c0,e0,hq,h1,h2,h3,h4⟩:=hr.cells ho;rw[hp] at hq;cases hq;rw[hb] at h1;cases h1;obtain⟨a1,a2,a3,a4,a5,a6,a7,a8⟩:=oL hr ho;refine hr.update (o':=.cells cs' bX) ho hp ?_ a4 ?_ ?_ hoth hs e1 e2 e3 (bv (ep _ _).1 a7) ?_
 ·intro j x hx;simp only[dS] at hx;split at hx
  ·rename_i e;cases hx;exact .inl ⟨e,rfl⟩
  ·rename_i hne;have hx':=a2 j x hx;refine .inr ⟨hne,hx',?_⟩;intro q hq hbb;obtain⟨cs1,e1⟩:=(hr.sep j id x _ q p hne hx' ho hq hp hbb).left;subst e1;exact hne (a3 j cs1 hx)
 ·intro i cs'' f hi;simp only[dS] at hi;split at hi
  ·rename_i e;cases hi;subst e;exact⟨(hr.bX i _ _ ho).1,a5⟩
  ·rename_i hne;have hi':=a2 _ _ hi;obtain⟨b1,x,y,b2,b3⟩:=hr.bX i _ _ hi';refine⟨b1,x,y,?_,b3⟩;rw[a6 f (λe=>hne (a3 i cs'' (e▸hi)))];exact b2
 ·exact⟨c',e,hb',by rw[hcz];exact h2,by omega,hV⟩
 ·intro j hj hjn;simp only[dS];have hm:=ep (h.alone id bX).low id;rw[ul (by simp only at hj;omega)];exact a8 j (by simp only at hj;omega)
def DQ{x:Nat}(hf:h.dN.get bX=some (x,y)):(h.alone id bX).dN.get bX=some (id,id):=by
 unfold H.alone;rw[hf];simp only;cases hb:(beq x id&&beq y id)
 ·rw[ar];exact da _ _ _
 ·rw[ah,hf];simp only[b6] at hb;rw[cZ hb.1,cZ hb.2]
def dz:∀a:List Nat,fZ a a=false
 | []=>rfl
 | x::a=>by
  simp only[fZ,dz a,Bool.and_false,Bool.or_false];cases hb:blt x x
  ·rfl
  ·exact t7 (fY hb) (cf _)
def Nq(a b:Nat):blt a b=decide (a<b):=by
 by_cases h:a<b
 ·have:blt a b=true:=Nat.ble_eq_true_of_le h;simp[h,this]
 ·cases hb:blt a b
  ·simp[h]
  ·exact t7 (fY hb) h
def beq_iff(a b:Nat):beq a b=decide (a=b):=by
 by_cases h:a=b
 ·subst h;simp
 ·cases hb:beq a b
  ·simp[h]
  ·exact t7 (cZ hb) h
def j6:∀a b:List Nat,fZ a b=true\/a=b\/fZ b a=true
 | [],[]=>.inr (.inl rfl)
 | [],_::_=>.inl rfl
 | _::_,[]=>.inr (.inr rfl)
 | x::a,y::b=>by
  simp only[fZ,Nq,beq_iff]
  rcases Nat.lt_trichotomy x y with h | h | h
  ·exact .inl (by simp[h])
  ·subst h
   rcases j6 a b with h | h | h
   ·exact .inl (by simp[h])
   ·exact .inr (.inl (by rw[h]))
   ·exact .inr (.inr (by simp[h]))
  ·exact .inr (.inr (by simp[h]))
def fO:∀{a b c:List Nat},fZ a b=true->fZ b c=true->fZ a c=true
 | _,[],_,h,_=>by simp[fZ] at h
 | _,_::_,[],_,h=>by simp[fZ] at h
 | [],_::_,_::_,_,_=>rfl
 | x::a,y::b,z::c,h1,h2=>by
  simp only[fZ,Nq,beq_iff,d7,b6,wp] at h1 h2 ⊢
  rcases h1 with h1 | ⟨h1,g1⟩
  ·rcases h2 with h2 | ⟨h2,_⟩
   ·exact .inl gt
   ·exact .inl gt
  ·rcases h2 with h2 | ⟨h2,g2⟩
   ·exact .inl gt
   ·exact .inr ⟨by omega,fO g1 g2⟩
def tp{a b:List Nat}(h:fZ a b=true):fZ b a=false:=by
 cases hb:fZ b a
 ·rfl
 ·have:=fO h hb;rw[dz] at this;cases this
def lL{x:Nat}(hf:h.dN.get bX=some (x,y)){i:Nat}(hx:i≠x)(hy:i≠y):(h.alone id bX).aV.get i=h.aV.get i:=by
 unfold H.alone;rw[hf];simp only;cases hb:(beq x id&&beq y id)
 ·rw[ar];simp only;cases beq y id
  ·rw[ar];cases beq x id
   ·rw[ar,bm _ _ hy,bm _ _ hx]
   ·rw[ah,bm _ _ hy]
  ·rw[ah,bm _ _ hx]
 ·rw[ah]
def I2{k:IntKind}{a b:Int}:uE false (.int k a) (.int k b)=some (.int k (if a<=b then a else b)):=by
 simp only[uE,ff,ar];by_cases h:a<=b<;>simp[h]
def I1{k:IntKind}{a b:Int}:uE true (.int k a) (.int k b)=some (.int k (if b<=a then a else b)):=by
 simp only[uE,ff,ah];by_cases h:b<=a<;>simp[h]
open Go.RowKit Go.ChangeShapes Go.WideShapes Go.Deep
section
abbrev TW:=List (uV×Option (List AV))
def SY:TW->Nat->Tr AO->Tr AO
 | [],_,t=>t
 | (_,oc)::l,i,t=>SY l (i+1) (match oc with | some cs=>t.put i (some (.ro cs)) | none=>t)
def Y5(l:TW):H:={ aV:=SY l 0 .nil,dN:=.nil,next:=l.length,low:=0 }
def Jt:∀(l:TW) (i:Nat) (t:Tr AO) (j:Nat),(SY l i t).get j=if i<=j/\j<i+l.length then (match (l[j-i]?).bind (·.2) with | some cs=>some (.ro cs) | none=>t.get j) else t.get j
 | [],i,t,j=>by rw[ul f5];rfl
 | (p,oc)::l,i,t,j=>by
  unfold SY;rw[Jt l (i+1)];by_cases hj:j=i
  ·subst hj;rw[ul gt,t8 f5,cl]
   cases oc with
   | none=>rfl
   | some cs=>exact da _ _ _
  ·have ht:(match oc with | some cs=>t.put i (some (.ro cs)) | none=>t).get j=t.get j:=by
    cases oc with
    | none=>rfl
    | some cs=>exact bm _ _ hj
   rw[ht];by_cases h:i+1<=j/\j<i+1+l.length
   ·rw[t8 h,t8 (by simp;omega)]
    have e:j-i=(j-(i+1))+1:=by omega
    rw[e,aj]
   ·rw[ul h,ul (by simp;omega)]
def Uw(l:TW)(j:Nat):(Y5 l).aV.get j=((l[j]?).bind (·.2)).map .ro:=by
 show(SY l 0 .nil).get j=_;rw[Jt,co,d6];by_cases h:j<l.length
 ·rw[t8 ⟨bo _,h⟩]
  cases hb:(l[j]?).bind (·.2) with
  | none=>exact get_nil _
  | some cs=>rfl
 ·rw[ul gt,a9 gt];exact get_nil _
def DW{w:World}{b o:Nat}{v:Value}(h:w.cell? ⟨b,o,none⟩=some v):∃c e f,w.heap[b]?=some (.cells c e f)/\c[o]?=some v:=by
 unfold World.cell? at h;split at h
 ·rename_i c e f hb;split at h
  ·cases h
  ·exact⟨c,e,f,hb,h⟩
 ·cases h
variable {Hh:Type} {enc:TypeId×Value->Hh} {P:Program} {w:World} {held:Bool}
def Re(s:ByteArray):∀b∈s.data.toList.map (·.toNat),b<256:=by
 intro b hb;obtain⟨u,_,rfl⟩:=mem_map.1 hb;exact u.toNat_lt
end
mutual
def Wd(w:World):DV->Value->Prop
 | .fl a,v=>nU a=true/\∀σ:Sg,V σ a v
 | .sl nl n e cs,v=>(nl=true/\n=0/\cs=[]/\v=.slice none 0 0)\/
  (nl=false/\∃a c,v=.slice (some a) n c/\n<=c/\((n=0/\cs=[]/\(a.spot=none\/c=0))\/
   (0<n/\a.spot=none/\∃arr ty f us,w.heap[a.block]?=some (.cells arr ty f)/\a.off+c*e<=arr.size/\us.length=n*e/\(∀(i:Nat) u,us[i]?=some u->arr[a.off+i]?=some u)/\oK w cs us)))
 | .ag cs,v=>∃vs,v=.agg vs/\oK w cs vs.toList
def oK(w:World):List DV->List Value->Prop
 | [],us=>us=[]
 | d::ds,us=>∃u r,us=u::r/\Wd w d u/\oK w ds r
end
mutual
def Dp(s:Bool)(h:H):DV->AV->Prop
 | .fl a0,a=>a=a0/\nU a0=true
 | .sl nl n e cs,a=>(n=0/\cs=[]/\(∃o e' c,a=.slice o 0 e' c/\(o=none->c=some 0)/\(o≠none->e'=e))/\(s=true->nl=true/\a=.slice none 0 e (some 0)))\/
  ((s=true->nl=false/\0<n)/\∃id off cap row aS,a=.slice (some (id,off)) n e cap/\id<h.next/\tS h.aV id=some row/\off+n*e<=row.length/\aS=(row.drop off).take (n*e)/\HH s h cs aS)
 | .ag cs,a=>∃aS,a=.agg aS/\HH s h cs aS
def HH(s:Bool)(h:H):List DV->List AV->Prop
 | [],aS=>aS=[]
 | d::ds,aS=>∃a r,aS=a::r/\Dp s h d a/\HH s h ds r
end
section
variable {w:World} {s:Bool} {h:H}
def HO{a:AV}{v:Value}:Wd w (.fl a) v↔nU a=true/\∀σ:Sg,V σ a v:=by rw[Wd]
variable{cs:List DV}
def HP{nl:Bool}{n e:Nat}{v:Value}:Wd w (.sl nl n e cs) v↔(nl=true/\n=0/\cs=[]/\v=.slice none 0 0)\/
 (nl=false/\∃a c,v=.slice (some a) n c/\n<=c/\((n=0/\cs=[]/\(a.spot=none\/c=0))\/
  (0<n/\a.spot=none/\∃arr ty f us,w.heap[a.block]?=some (.cells arr ty f)/\a.off+c*e<=arr.size/\us.length=n*e/\(∀(i:Nat) u,us[i]?=some u->arr[a.off+i]?=some u)/\oK w cs us))):=by rw[Wd]
def QR{v:Value}:Wd w (.ag cs) v↔∃vs,v=.agg vs/\oK w cs vs.toList:=by rw[Wd]
variable{us:List Value}
def jV:oK w [] us↔us=[]:=by rw[oK]
def eL{d:DV}{ds:List DV}:oK w (d::ds) us↔∃u r,us=u::r/\Wd w d u/\oK w ds r:=by rw[oK]
def Xt{a0 a:AV}:Dp s h (.fl a0) a↔a=a0/\nU a0=true:=by rw[Dp]
def Nf{nl:Bool}{n e:Nat}{a:AV}:Dp s h (.sl nl n e cs) a↔(n=0/\cs=[]/\(∃o e' c,a=.slice o 0 e' c/\(o=none->c=some 0)/\(o≠none->e'=e))/\(s=true->nl=true/\a=.slice none 0 e (some 0)))\/
 ((s=true->nl=false/\0<n)/\∃id off cap row aS,a=.slice (some (id,off)) n e cap/\id<h.next/\tS h.aV id=some row/\off+n*e<=row.length/\aS=(row.drop off).take (n*e)/\HH s h cs aS):=by rw[Dp]
def Xs{a:AV}:Dp s h (.ag cs) a↔∃aS,a=.agg aS/\HH s h cs aS:=by rw[Dp]
def TZ:HH s h [] aS↔aS=[]:=by rw[HH]
def QG{d:DV}{ds:List DV}:HH s h (d::ds) aS↔∃a r,aS=a::r/\Dp s h d a/\HH s h ds r:=by rw[HH]
end
def QO(σ:Sg)(w:World)(p:uV)(row:List AV):Prop:=∃c e f,w.heap[p.b]?=some (.cells c e f)/\p.d+p.r<=c.size/\row.length<=p.r/\∀(i:Nat) (a:AV),row[i]?=some a->∃v,c[p.d+i]?=some v/\V σ a v
def QX{a b:List α}{i:Nat}{x:α}(h:(a++b)[i]?=some x):(i<a.length/\a[i]?=some x)\/(a.length<=i/\b[i-a.length]?=some x):=by
 rw[cc] at h;split at h
 ·rename_i hi;exact .inl ⟨hi,h⟩
 ·rename_i hi;exact .inr ⟨by omega,h⟩
mutual
def Wd.canon{w:World}:∀{d:DV} {v:Value},Wd w d v->∀k,∃ps:List uV,ps.length=(canon d k).2.length/\∀σ:Sg,(∀(i:Nat) p,ps[i]?=some p->σ (k+i)=some p)->
 V σ (Ev.canon d k).1 v/\∀(i:Nat) p row,ps[i]?=some p->(Ev.canon d k).2[i]?=some (some row)->QO σ w p row
 | .fl a,v,hd,k=>by
  rw[HO] at hd;simp only[Ev.canon];exact⟨[],rfl,λσ _=>⟨hd.2 σ,λi p row h _=>by simp at h⟩⟩
 | .sl nl n e cs,v,hd,k=>by
  rw[HP] at hd
  rcases hd with⟨rfl,rfl,rfl,rfl⟩ | ⟨rfl,a,c,rfl,hl,⟨rfl,rfl,hsp⟩ | ⟨hn,hsp,arr,ty,f,us,g1,g2,g3,g4,g5⟩⟩
  ·simp only[Ev.canon];exact⟨[],rfl,λσ _=>⟨.jd rfl,λi p row h _=>by simp at h⟩⟩
  ·simp only[Ev.canon,fJ];refine⟨[⟨a.block,a.off,c*e⟩],rfl,λσ hσ=>⟨?_,λi p row h1 h2=>?_⟩⟩
   ·have h0:=hσ 0 _ rfl;rw[ey] at h0;refine .slice h0 hl (by show 0+c*e<=c*e;omega) f5 ?_
    rcases hsp with hsp | hsp
    ·left;cases a;simp only at hsp ⊢;subst hsp;rfl
    ·exact .inr hsp
   ·cases i with
    | zero=>simp at h2
    | succ i=>simp at h1
  ·obtain⟨ps,hps,hσs⟩:=oK.canon g5 (k+1);obtain⟨m,rfl⟩:∃m,n=m+1:=⟨n-1,by omega⟩;simp only[Ev.canon];refine⟨⟨a.block,a.off,c*e⟩::ps,by simp[hps],λσ hσ=>?_⟩;have h0:=hσ 0 _ rfl;rw[ey] at h0
   obtain⟨k1,k2⟩:=hσs σ λi p hp=>by
    have:=hσ (i+1) p (by simpa using hp);rw[show k+1+i=k+(i+1) by omega];exact this
   refine⟨.slice h0 hl (by show 0+c*e<=c*e;omega) f5 (.inl (by cases a;simp only at hsp ⊢;subst hsp;rfl)),λi p row h1 h2=>?_⟩
   cases i with
   | zero=>
    simp only[bb,n8] at h1 h2;subst h1;subst h2;have hlen:=k1.1;refine⟨arr,ty,f,g1,by simpa using g2,?_,λi x hx=>?_⟩
    ·rw[hlen,g3];exact Nat.mul_le_mul_right e hl
    ·obtain⟨u,hu,hV⟩:=k1.get hx;exact⟨u,g4 i u hu,hV⟩
   | succ i=>
    simp only[aj] at h1 h2;exact k2 i p row h1 h2
 | .ag cs,v,hd,k=>by
  rw[QR] at hd;obtain⟨vs,rfl,h1⟩:=hd;obtain⟨ps,hps,hσs⟩:=oK.canon h1 k;simp only[Ev.canon];refine⟨ps,hps,λσ hσ=>?_⟩;obtain⟨k1,k2⟩:=hσs σ hσ;exact⟨.agg (by simpa using k1.1) (λi x y hx hy=>k1.2 i x y hx (by simpa using hy)),k2⟩
def oK.canon{w:World}:∀{ds:List DV} {us:List Value},oK w ds us->∀k,∃ps:List uV,ps.length=(fJ ds k).2.length/\∀σ:Sg,(∀(i:Nat) p,ps[i]?=some p->σ (k+i)=some p)->
 VL σ (fJ ds k).1 us/\∀(i:Nat) p row,ps[i]?=some p->(fJ ds k).2[i]?=some (some row)->QO σ w p row
 | [],us,hd,k=>by
  rw[jV] at hd;subst hd;simp only[fJ];exact⟨[],rfl,λσ _=>⟨.nil,λi p row h _=>by simp at h⟩⟩
 | d::ds,us,hd,k=>by
  rw[eL] at hd;obtain⟨u,r,rfl,h1,h2⟩:=hd;obtain⟨ps,hps,hσ1⟩:=Wd.canon h1 k;obtain⟨qs,hqs,hσ2⟩:=oK.canon h2 (k+(Ev.canon d k).2.length);simp only[fJ];refine⟨ps++qs,by simp[hps,hqs],λσ hσ=>?_⟩
  obtain⟨a1,a2⟩:=hσ1 σ λi p hp=>hσ i p (by
   have hi:i<ps.length:=(pp hp).1
   rw[aO hi];exact hp)
  obtain⟨b1,b2⟩:=hσ2 σ λi p hp=>by
   have:=hσ (ps.length+i) p (by rw[ay gt,bI];exact hp);rw[<-hps,f3];exact this
  refine⟨.cons a1 b1,λi p row g1 g2=>?_⟩
  rcases QX g1 with⟨i1,e1⟩ | ⟨i1,e1⟩<;>rcases QX g2 with⟨i2,e2⟩ | ⟨i2,e2⟩
  ·exact a2 i p row e1 e2
  ·omega
  ·omega
  ·rw[hps] at e1;exact b2 _ p row e1 e2
end
def Wz(rows:List (Option (List AV))):H:=Y5 (rows.map λr=>(⟨0,0,0⟩,r))
def vC(rows:List (Option (List AV)))(j:Nat):(Wz rows).aV.get j=((rows[j]?).bind λr=>r).map .ro:=by
 unfold Wz;rw[Uw,bh];cases rows[j]?<;>rfl
def WA{w:World}{rows:List (Option (List AV))}{ps:List uV}(hl:ps.length=rows.length)(hin:∀(i:Nat) p row,ps[i]?=some p->rows[i]?=some (some row)->QO (λi=>ps[i]?) w p row):HR (λi=>ps[i]?) (Wz rows) w:=by
 refine⟨?_,?_,?_,?_,bo _⟩
 ·intro id o ho;rw[vC] at ho;obtain⟨cs,h1,rfl⟩:=aq ho
  cases hx:rows[id]? with
  | none=>rw[hx] at h1;cases h1
  | some r=>
   rw[hx] at h1;have h1:r=some cs:=h1;subst h1;have hid:id<rows.length:=(pp hx).1;have hp:ps[id]?=some ps[id]:=jp gt;exact⟨ps[id],hp,hin id _ cs hp hx⟩
 ·intro id hid;have hid:(rows.map λr=>((⟨0,0,0⟩:uV),r)).length<=id:=hid;rw[bd] at hid;exact a9 gt
 ·intro i j o o' p q hij hi hj _ _ _;rw[vC] at hi hj;obtain⟨cs,_,rfl⟩:=aq hi;obtain⟨cs',_,rfl⟩:=aq hj;exact .inr ⟨cs,cs',rfl,rfl⟩
 ·intro i cs f hi;rw[vC] at hi;obtain⟨cs',_,e⟩:=aq hi;cases e
def Lf{rows:List (Option (List AV))}{σ':Sg}{w:World}(hE:Ext σ σ' (Wz rows) h' w w'):Below w.heap.size w w':=
 ⟨hE.os,hE.tape,hE.output,hE.size,λk hk=>hE.frame k hk λid o p ho hw=>by
  rw[vC] at ho;obtain⟨cs,_,rfl⟩:=aq ho
  exact t7 rfl (hw cs)⟩
variable{us:List Value}
def oK.lay{w:World}{ds:List DV}(h:oK w ds us):∃σ:Sg,VL σ (fJ ds 0).1 us/\HR σ (Wz (fJ ds 0).2) w:=by
 obtain⟨ps,hps,hσ⟩:=oK.canon h 0;obtain⟨k1,k2⟩:=hσ (λi=>ps[i]?) (λi p hp=>by rw[d6];exact hp);exact⟨_,k1,WA hps k2⟩
def Sub(rows:List (Option (List AV)))(k:Nat)(l:List (Option (List AV))):Prop:=∀(i:Nat) r,l[i]?=some r->rows[k+i]?=some r
mutual
def Wd.dp{w:World}{rows:List (Option (List AV))}:∀{d:DV} {v:Value},Wd w d v->∀k,Sub rows k (Ev.canon d k).2->Dp false (Wz rows) d (Ev.canon d k).1
 | .fl a,v,hd,k,hs=>by
  rw[HO] at hd;simp only[Ev.canon,Dp];exact⟨trivial,hd.1⟩
 | .sl nl n e cs,v,hd,k,hs=>by
  rw[HP] at hd
  rcases hd with⟨rfl,rfl,rfl,rfl⟩ | ⟨rfl,a,c,rfl,hl,⟨rfl,rfl,hsp⟩ | ⟨hn,hsp,arr,ty,f,us,g1,g2,g3,g4,g5⟩⟩
  ·simp only[Ev.canon];rw[Nf];exact .inl ⟨rfl,rfl,⟨_,_,_,rfl,by simp⟩,λh=>by cases h⟩
  ·simp only[Ev.canon];rw[Nf];exact .inl ⟨rfl,rfl,⟨_,_,_,rfl,by simp⟩,λh=>by cases h⟩
  ·obtain⟨m,rfl⟩:∃m,n=m+1:=⟨n-1,by omega⟩;simp only[Ev.canon] at hs ⊢
   have hlen:(fJ cs (k+1)).1.length=(m+1)*e:=by
    obtain⟨ps,hps,hσ⟩:=oK.canon g5 (k+1);have:=(hσ (λi=>ps[i-(k+1)]?) (λi p hp=>by rw[bI];exact hp)).1.1;rw[this,g3]
   have h0:=hs 0 _ rfl;rw[ey] at h0;have hk:k<rows.length:=(pp h0).1
   have ih:=oK.dp (rows:=rows) g5 (k+1) (λi r hr=>by
    have:=hs (i+1) r (by simpa using hr)
    rw[show k+1+i=k+(i+1) by omega];exact this)
   rw[Nf];refine .inr ⟨λh=>(by cases h),k,0,none,(fJ cs (k+1)).1,(fJ cs (k+1)).1,rfl,?_,?_,?_,?_,ih⟩
   ·show k<(rows.map _).length;rw[bd];exact hk
   ·unfold tS;rw[vC,h0];rfl
   ·rw[hlen];omega
   ·rw[ei,b9 gt]
 | .ag cs,v,hd,k,hs=>by
  rw[QR] at hd;obtain⟨vs,rfl,h1⟩:=hd;simp only[Ev.canon] at hs ⊢;simp only[Dp];exact⟨_,rfl,oK.dp h1 k hs⟩
def oK.dp{w:World}{rows:List (Option (List AV))}:∀{ds:List DV} {us:List Value},oK w ds us->∀k,Sub rows k (fJ ds k).2->HH false (Wz rows) ds (fJ ds k).1
 | [],us,hd,k,hs=>by
  simp only[fJ,HH]
 | d::ds,us,hd,k,hs=>by
  rw[eL] at hd;obtain⟨u,r,rfl,h1,h2⟩:=hd;simp only[fJ] at hs ⊢;simp only[HH];refine⟨_,_,rfl,Wd.dp h1 k (λi x hx=>hs i x ?_),oK.dp h2 _ (λi x hx=>?_)⟩
  ·have hi:i<(Ev.canon d k).2.length:=(pp hx).1;rw[aO hi];exact hx
  ·have:=hs ((Ev.canon d k).2.length+i) x (by rw[ay gt,bI];exact hx);rw[f3];exact this
end
section
inductive Ty where
 | bool
 | int (k:IntKind)
 | str
 | sl (t:Ty)
 | st (ts:List Ty)
 | no (s:Nat)
mutual
def Ty.size:Ty->Nat
 | .st ts=>Ty.yZ ts
 | .no s=>s
 | _=>1
def Ty.yZ:List Ty->Nat
 | []=>0
 | t::ts=>t.size+Ty.yZ ts
end
mutual
def oF(B:Nat):Ty->List DV->Prop
 | .bool,ds=>∃b,ds=[.fl (.bool b)]
 | .int k,ds=>∃n,ds=[.fl (.int k n)]/\(Lit.int k n).wf=true
 | .str,ds=>∃s:List Nat,ds=[.fl (.str s)]/\(∀x∈s,x<256)/\s.length<=B
 | .sl t,ds=>∃(nl:Bool) (rows:List (List DV)),ds=[.sl nl rows.length t.size rows.flatten]/\rows.length<=B/\∀r∈rows,oF B t r
 | .st ts,ds=>fN B ts ds
 | .no _,_=>False
def fN(B:Nat):List Ty->List DV->Prop
 | [],ds=>ds=[]
 | t::ts,ds=>∃d1 d2,ds=d1++d2/\oF B t d1/\fN B ts d2
end
def YJ(B:Nat):Ty->DV->Prop
 | .st ts,d=>∃ds,d=.ag ds/\fN B ts ds
 | t,d=>oF B t [d]
def kT(P:Program)(rec:TypeId->Option Ty):List Field->Nat->Option (List Ty)
 | [],_=>some []
 | f::fs,off=>cond (beq f.offset off) ((rec f.type).bind λt=>cond (beq (P.cellsOf f.type) t.size) ((kT P rec fs (off+t.size)).map (t::·)) none) none
def oC(P:Program):Nat->TypeId->Option Ty
 | 0,t=>some (.no (P.cellsOf t))
 | k+1,t=>match P.underlying t with
  | some .bool=>some .bool
  | some (.int i)=>some (.int i)
  | some .string=>some .str
  | some (.slice e)=>(oC P k e).bind λte=>cond (beq (P.cellsOf e) te.size&&(ble 1 te.size&&ble 1 (P.bytesOf e))) (some (.sl te)) none
  | some (.struct fs)=>(kT P (oC P k) fs.toList 0).bind λts=>cond (beq (P.cellsOf t) (Ty.yZ ts)) (some (.st ts)) none
  | _=>none
def oK.append{w:World}:∀{a b:List DV} {x y:List Value},oK w a x->oK w b y->oK w (a++b) (x++y)
 | [],b,x,y,h1,h2=>by rw[jV] at h1;subst h1;exact h2
 | d::a,b,x,y,h1,h2=>by
  rw[eL] at h1;obtain⟨u,r,rfl,k1,k2⟩:=h1;rw[List.cons_append,eL];exact⟨u,r++y,rfl,k1,oK.append k2 h2⟩
def oK.rows{w:World}{n:Nat}{G:Nat->List DV}{F:Nat->List Value}(h:∀i,i<n->oK w (G i) (F i)):oK w ((bi n).map G).flatten ((bi n).map F).flatten:=by
 have key:∀l:List Nat,(∀i∈l,i<n)->oK w (l.map G).flatten (l.map F).flatten:=by
  intro l
  induction l with
  | nil=>intro _;rw[cj,cj,eF,eF,jV]
  | cons a l ih=>
   intro hl;rw[bt,bt,bc,bc];exact oK.append (h a (hl a (ap ..))) (ih λi hi=>hl i (ad _ hi))
 exact key _ λi hi=>mem_range.1 hi
def Is{α:Type}{s:Nat}:∀{rows:List (List α)},(∀r∈rows,r.length=s)->∀{j:Nat} {x:α},rows.flatten[j]?=some x->∃i k r,j=i*s+k/\k<s/\rows[i]?=some r/\r[k]?=some x
 | [],_,j,x,h=>by simp at h
 | a::rows,hw,j,x,h=>by
  have ha:=hw a (ap ..);rw[bc,cc] at h;split at h
  ·rename_i hj;exact⟨0,j,a,by omega,by omega,rfl,h⟩
  ·obtain⟨i,k,r,e1,e2,e3,e4⟩:=Is (λr hr=>hw r (ad _ hr)) h;exact⟨i+1,k,r,by rw[cv];omega,e2,e3,e4⟩
variable {Hh:Type} {enc:TypeId×Value->Hh} {P:Program} {w:World} {held:Bool}
variable {B:Nat}
def US:∀{t:Ty} {ds:List DV},oF B t ds->(∀ts,t≠.st ts)->ds.length=1:=by
 intro t ds h hn
 cases t with
 | bool=>rw[oF] at h;obtain⟨b,rfl⟩:=h;rfl
 | int k=>rw[oF] at h;obtain⟨n,rfl,_⟩:=h;rfl
 | str=>rw[oF] at h;obtain⟨s,rfl,_⟩:=h;rfl
 | sl t=>rw[oF] at h;obtain⟨nl,rows,rfl,_,_⟩:=h;rfl
 | st ts=>exact t7 rfl (hn ts)
 | no s=>rw[oF] at h;exact h.elim
def oE{e:TypeId}{x:DataW Hh}{n:Nat}(hn:n∈x.weights P e):∀{l:List (DataW Hh)},x∈l->n∈DataW.weightsAll P e l
 | [],h=>by cases h
 | d::l,h=>by
  unfold DataW.weightsAll
  rcases rt h with rfl | h
  ·exact d8 _ hn
  ·exact d4 _ (oE hn h)
def XP{n:Nat}{cs:List Value}{x:DataW Hh×List MemPlace}(ht:P.underlying t=some (.slice e))(h:DataW.trod enc P w 0 (λ_=>true) held n t cs=some x):
 (cs=[.slice none 0 0]/\x=(.nil,[]))\/∃(a:Addr) (len cap n':Nat) (D:Nat->DataW Hh),n=n'+1/\cs=[.slice (some a) len cap]/\len<=cap/\x.1=.slice ((bi len).map D) ((bi (cap-len)).map λj=>D (len+j))/\
  ∀i,i<cap->∃cs' y,w.cells? 0 (a.add (i*P.cellsOf e)) (P.cellsOf e)=some cs'/\DataW.trod enc P w 0 (λ_=>true) held n' e cs'=some y/\y.1=D i:=by
 rcases DataW.trod_slice ht h with h0 | ⟨a,len,cap,elems,rest,n',hn,hcs,hx,_,hl,_,hlen,hel,hsp,_⟩
 ·exact .inl h0
 obtain⟨hrl,hre⟩:=hsp rfl;refine .inr ⟨a,len,cap,n',λi=>((elems++rest).getD i (.nil,[])).1,hn,hcs,hl,?_,λi hi=>?_⟩
 ·rw[hx];show DataW.slice _ _=_
  congr 1
  ·refine eB (by simp[hlen]) λi h1 h2=>?_
   have h3:i<elems.length:=by simpa using h1
   simp[getD,aO h3,jp h3]
  ·refine eB (by simp[hrl]) λi h1 h2=>?_
   have h3:i<rest.length:=by simpa using h1
   have h4:elems.length<=len+i:=by omega
   have h5:len+i-elems.length=i:=by omega
   simp[getD,ay h4,h5,jp h3]
 ·by_cases hil:i<len
  ·have h3:i<elems.length:=by omega
   have k:=hel i hil;rw[jp h3] at k;obtain⟨cs',h1,h2⟩:=t6 k;exact⟨cs',_,h1,h2,by simp[getD,aO h3,jp h3]⟩
  ·have h3:i-len<rest.length:=by omega
   have k:=hre (i-len) gt;rw[jp h3,show len+(i-len)=i by omega] at k;obtain⟨cs',h1,h2⟩:=t6 k
   have h4:elems.length<=i:=by omega
   have h5:i-elems.length=i-len:=by omega
   exact⟨cs',_,h1,h2,by simp[getD,ay h4,h5,jp h3]⟩
def zb{rec:TypeId->Option Ty}{cs:List Value}{m:Nat}(hrec:∀(t:TypeId) (ty:Ty),rec t=some ty->∀(n:Nat),n<=m->∀(c:List Value) (y:DataW Hh×List MemPlace),DataW.trod enc P w 0 (λ_=>true) held n t c=some y->(∀x∈y.1.weights P t,x<=B)->∃ds,oF B ty ds/\oK w ds c):
 ∀(fs:List Field) (off:Nat) (ts:List Ty),kT P rec fs off=some ts->off+Ty.yZ ts=cs.length->(∀f∈fs,∃n y,n<=m/\DataW.trod enc P w 0 (λ_=>true) held n f.type ((cs.drop f.offset).take (P.cellsOf f.type))=some y/\∀x∈y.1.weights P f.type,x<=B)->∃ds,fN B ts ds/\oK w ds (cs.drop off)
 | [],off,ts,h,hl,_=>by
  simp only[kT,n8] at h;subst h;simp only[Ty.yZ] at hl;exact⟨[],by rw[fN],by rw[jV,List.drop_of_length_le gt]⟩
 | f::fs,off,ts,h,hl,hf=>by
  unfold kT at h;obtain⟨ho,h⟩:=aI h;have ho:=cZ ho
  cases hr:rec f.type with
  | none=>rw[hr] at h;cases h
  | some t=>
   rw[hr] at h;simp only[m7] at h;obtain⟨hc,h⟩:=aI h;have hc:=cZ hc;obtain⟨ts',h',rfl⟩:=aq h;simp only[Ty.yZ] at hl;obtain⟨n,y,hnm,hy,hwt⟩:=hf f (ap ..);rw[ho,hc] at hy;obtain⟨d1,k1,k2⟩:=hrec _ _ hr n hnm _ y hy hwt;obtain⟨d2,k3,k4⟩:=zb hrec fs (off+t.size) ts' h' gt (λg hg=>hf g (ad _ hg));refine⟨d1++d2,by rw[fN];exact⟨d1,d2,rfl,k1,k3⟩,?_⟩
   have e:cs.drop off=(cs.drop off).take t.size++cs.drop (off+t.size):=by
    rw[<-fy,List.take_append_drop]
   rw[e];exact k2.append k4
def yn:∀(k:Nat) (t:TypeId) (ty:Ty),oC P k t=some ty->∀(n:Nat),n<=k->∀(c:List Value) (y:DataW Hh×List MemPlace),DataW.trod enc P w 0 (λ_=>true) held n t c=some y->(∀x∈y.1.weights P t,x<=B)->∃ds,oF B ty ds/\oK w ds c
 | 0,t,ty,h,n,hnk,_,_,hy,_=>by
  rw[Nat.le_zero.1 hnk] at hy;simp[DataW.trod] at hy
 | k+1,t,ty,h,n,hnk,c,y,hy,hwt=>by
  unfold oC at h
  cases hu:P.underlying t with
  | none=>rw[hu] at h;cases h
  | some u=>
   rw[hu] at h
   cases u with
   | bool=>
    cases h;obtain⟨b,rfl,_⟩:=DataW.trod_bool hu hy;exact⟨[.fl (.bool b)],by rw[oF];exact⟨b,rfl⟩,by rw[eL];exact⟨_,_,rfl,by rw[HO];exact⟨rfl,λσ=>.bool b⟩,by rw[jV]⟩⟩
   | int i=>
    cases h;obtain⟨m,rfl,_,wf⟩:=DataW.trod_int hu hy;exact⟨[.fl (.int i m)],by rw[oF];exact⟨m,rfl,wf⟩,by rw[eL];exact⟨_,_,rfl,by rw[HO];exact⟨rfl,λσ=>.int _ _⟩,by rw[jV]⟩⟩
   | string=>
    cases h;obtain⟨s,rfl,rfl,hs⟩:=DataW.trod_string hu hy
    have hlen:(r7 s).length<=B:=by
     unfold r7;rw[bd];exact hwt _ (by simp[DataW.weights])
    exact⟨[.fl (.str (r7 s))],by rw[oF];exact⟨_,rfl,Re s,hlen⟩,by rw[eL];exact⟨_,_,rfl,by rw[HO];exact⟨rfl,λσ=>.str rfl⟩,by rw[jV]⟩⟩
   | slice e=>
    simp only at h
    cases he:oC P k e with
    | none=>rw[he] at h;cases h
    | some te=>
     rw[he] at h;simp only[m7] at h;obtain⟨hb,h⟩:=aI h;cases h;rw[b6] at hb;have hs:P.cellsOf e=te.size:=cZ hb.1;obtain⟨hb1,hb2⟩:=hb;rw[b6] at hb2;have hs0:0<te.size:=j8 hb2.1;have hby:1<=P.bytesOf e:=j8 hb2.2
     rcases XP hu hy with⟨rfl,_⟩ | ⟨a,len,m,n',D,hnn,rfl,hl,hyx,hx⟩
     ·exact⟨[.sl true 0 te.size []],by rw[oF];exact⟨true,[],rfl,bo _,λr hr=>(e6 hr).elim⟩,by rw[eL];exact⟨_,_,rfl,by rw[HP];exact .inl ⟨rfl,rfl,rfl,rfl⟩,by rw[jV]⟩⟩
     ·rw[hs] at hx
      rcases d9 m with hm0 | hm0
      ·subst hm0
       have:len=0:=by omega
       subst this
       exact⟨[.sl false 0 te.size []],by rw[oF];exact⟨false,[],rfl,bo _,λr hr=>(e6 hr).elim⟩,
        by rw[eL];exact⟨_,_,rfl,by rw[HP];exact .inr ⟨rfl,a,0,rfl,ax _,.inl ⟨rfl,rfl,.inr rfl⟩⟩,by rw[jV]⟩⟩
      ·have hspot:a.spot=none:=by
        obtain⟨cs',_,h1,_⟩:=hx 0 hm0;obtain⟨_,h2,h3⟩:=World.cells?_some h1;have h4:=h3 0 gt
        have h5:0<cs'.length:=by omega
        rw[jp h5] at h4;have:=World.cell?_spot h4;simpa [Addr.add] using this
       obtain⟨b,o,sp⟩:=a;simp only at hspot;subst hspot
       have hcell:∀i,i<m->∃cs',cs'.length=te.size/\(∀k,k<te.size->w.cell? ⟨b,o+(i*te.size+k),none⟩=cs'[k]?)/\∃y,DataW.trod enc P w 0 (λ_=>true) held n' e cs'=some y/\y.1=D i:=by
        intro i hi;obtain⟨cs',y,h1,h2⟩:=hx i hi;obtain⟨_,h3,h4⟩:=World.cells?_some h1;refine⟨cs',h3,λk hk=>?_,y,h2⟩;have:=h4 k gt;rw[iL,iL] at this;rw[<-this];congr 2;omega
       obtain⟨cs0,hc1,hc2,_⟩:=hcell 0 hm0;have h00:=hc2 0 hs0;rw[jp gt] at h00;obtain⟨arr,e',f,hb',_⟩:=DW h00
       have hgc:∀k v,w.cell? ⟨b,k,none⟩=some v->arr[k]?=some v:=by
        intro k v hk;obtain⟨c',e'',f',hb'',hv'⟩:=DW hk;rw[hb'] at hb'';cases hb'';exact hv'
       have hsz:o+m*te.size<=arr.size:=by
        obtain⟨cs1,g1,g2,_⟩:=hcell (m-1) gt;have h01:=g2 (te.size-1) gt;rw[jp gt] at h01;have:=hgc _ _ h01
        have hlt:o+((m-1)*te.size+(te.size-1))<arr.size:=by
         apply Decidable.byContradiction;intro hn;rw[dk gt] at this;cases this
        have hmul:m*te.size=(m-1)*te.size+te.size:=by
         have h9:=Nat.add_mul (m-1) 1 te.size;rw[Nat.sub_add_cancel hm0,Nat.one_mul] at h9;exact h9
        omega
       have hD:∀i,i<m->∀x∈(D i).weights P e,x<=B:=by
        intro i hi x hxw;refine hwt x ?_;rw[hyx];show x∈DataW.weights P t _;rw[DataW.weights,hu];simp only;refine ad _ ?_;by_cases hil:i<len
        ·exact d8 _ (oE hxw (mem_map.2 ⟨i,mem_range.2 hil,rfl⟩))
        ·exact d4 _ (oE hxw (mem_map.2 ⟨i-len,mem_range.2 gt,by rw[show len+(i-len)=i by omega]⟩))
       have hlenB:len<=B:=by
        have:=hwt ((len+(m-len))*P.bytesOf e) (by
         rw[hyx];show _∈DataW.weights P t _;rw[DataW.weights,hu]
         simp)
        have h2:len+(m-len)<=(len+(m-len))*P.bytesOf e:=Nat.le_mul_of_pos_right _ hby;omega
       obtain⟨F,hF⟩:=choose_lt (α:=List Value×List DV) (n:=len) (p:=λi x=>x.1.length=te.size/\(∀k,k<te.size->w.cell? ⟨b,o+(i*te.size+k),none⟩=x.1[k]?)/\oF B te x.2/\oK w x.2 x.1) (λi hi=>by
        obtain⟨cs',g1,g2,y,g3,g4⟩:=hcell i gt;obtain⟨ds,k1,k2⟩:=yn k e te he n' gt cs' _ g3 (by rw[g4];exact hD i gt)
        exact⟨(cs',ds),g1,g2,k1,k2⟩)
       have hw1:∀r∈(bi len).map λi=>(F i).1,r.length=te.size:=by
        intro r hr;obtain⟨i,hi,rfl⟩:=mem_map.1 hr;exact(hF i (mem_range.1 hi)).1
       refine⟨[.sl false len te.size ((bi len).map λi=>(F i).2).flatten],?_,?_⟩
       ·rw[oF];refine⟨false,(bi len).map λi=>(F i).2,by rw[bd,cb],by rw[bd,cb];exact hlenB,λr hr=>?_⟩;obtain⟨i,hi,rfl⟩:=mem_map.1 hr;exact(hF i (mem_range.1 hi)).2.2.1
       ·rw[eL];refine⟨_,_,rfl,?_,by rw[jV]⟩;rw[HP];refine .inr ⟨rfl,_,m,rfl,hl,?_⟩
        rcases d9 len with hl0 | hl0
        ·subst hl0;exact .inl ⟨rfl,rfl,.inl rfl⟩
        ·refine .inr ⟨hl0,rfl,arr,e',f,((bi len).map λi=>(F i).1).flatten,hb',hsz,?_,?_,oK.rows λi hi=>(hF i hi).2.2.2⟩
         ·have:∀l:List Nat,(∀i∈l,i<len)->(l.map λi=>(F i).1).flatten.length=l.length*te.size:=by
           intro l
           induction l with
           | nil=>intro _;simp
           | cons a l ih=>
            intro hl;rw[bt,bc,li,ih λi hi=>hl i (ad _ hi),(hF a (hl a (ap ..))).1,i7,cv];omega
          rw[this _ λi hi=>mem_range.1 hi,cb]
         ·intro j u hu;obtain⟨i,q,r,rfl,hq,hr,hru⟩:=Is hw1 hu;rw[bh] at hr
          cases hri:(bi len)[i]? with
          | none=>rw[hri] at hr;cases hr
          | some i'=>
           rw[hri] at hr;have hil:=(pp hri).1;rw[cb] at hil;rw[List.getElem?_range hil] at hri;cases hri;cases hr;exact hgc _ _ (((hF i hil).2.1 q hq).trans hru)
   | struct fs=>
    simp only at h
    cases hfs:kT P (oC P k) fs.toList 0 with
    | none=>rw[hfs] at h;cases h
    | some ts=>
     rw[hfs] at h;simp only[m7] at h;obtain⟨hb,h⟩:=aI h;cases h;have hb:=cZ hb;obtain⟨xs,n',hnn,hyx,hl,hlen,hf⟩:=DataW.trod_struct hu hy
     obtain⟨ds,k1,k2⟩:=zb (cs:=c) (m:=k) (λt ty ht n hn c y hy hw=>yn k t ty ht n hn c y hy hw) fs.toList 0 ts hfs gt (λf hfm=>by
      obtain⟨i,hi⟩:=List.mem_iff_getElem?.1 hfm
      have hi':fs[i]?=some f:=by rw[<-ac];exact hi
      have:=hf i f hi'
      have hil:i<fs.size:=by
       have:=(pp hi).1;rw[Array.length_toList] at this;exact this
      rw[jp gt] at this;refine⟨n',_,by omega,this,λx hx=>hwt x ?_⟩;rw[hyx];show x∈DataW.weights P t _;rw[DataW.weights,hu];simp only
      exact DataW.weights_mem_each (j:=i) (by rw[bh,hi];rfl) (by rw[bh,jp (show i<xs.length by omega)];rfl) x hx)
     rw[ei] at k2;exact⟨ds,by rw[oF];exact k1,k2⟩
   | _=>cases h
def T3{d:DV}{v:Value}:oK w [d] [v]↔Wd w d v:=by
 rw[eL];constructor
 ·rintro⟨u,r,e,h,_⟩;simp only[mt] at e;rw[e.1];exact h
 ·intro h;exact⟨v,[],rfl,h,by rw[jV]⟩
def UT{t:Ty}{ds:List DV}(h:oF B t ds)(hn:∀ts,t≠.st ts):∃d,ds=[d]:=by
 have:=US h hn
 match ds,this with
 | [d],_=>exact⟨d,rfl⟩
def pV{tys:Nat->Ty}{v:Value}{d:DataW Hh}{ps:List MemPlace}{base:Nat}(ht:∀j,oC P (j+12) t=some (tys j))(hval:Value.okWide P w .any base t v)(hd:DataW.Trod enc P w 0 (λ_=>true) held t v d ps)(hwt:∀x∈d.weights P t,x<=B):∃j dv,YJ B (tys j) dv/\Wd w dv v:=by
 obtain⟨fuel,hf⟩:=hd;refine⟨fuel,?_⟩;have ht:=ht fuel;generalize tys fuel=ty at ht ⊢;obtain⟨ds,k1,k2⟩:=yn (fuel+12) t ty ht fuel gt _ _ hf hwt
 have hflat:∀{v:Value},v.cells.toList=[v]->(∀ts,ty≠.st ts)->oK w ds v.cells.toList->∃dv,YJ B ty dv/\Wd w dv v:=by
  intro v he hn k2;obtain⟨dv,rfl⟩:=UT k1 hn;rw[he,T3] at k2;refine⟨dv,?_,k2⟩
  cases ty with
  | st ts=>exact t7 rfl (hn ts)
  | _=>exact k1
 unfold oC at ht
 cases hu:P.underlying t with
 | none=>rw[hu] at ht;cases ht
 | some u=>
  rw[hu] at ht
  cases u with
  | bool=>obtain⟨b,rfl⟩:=okWide_bool hu hval;cases ht;exact hflat rfl (λts h=>by cases h) k2
  | int i=>obtain⟨b,rfl⟩:=okWide_int hu hval;cases ht;exact hflat rfl (λts h=>by cases h) k2
  | string=>obtain⟨b,rfl⟩:=okWide_string hu hval;cases ht;exact hflat rfl (λts h=>by cases h) k2
  | slice e=>
   obtain⟨a,l,c,rfl⟩:=okWide_slice hu hval;simp only at ht
   cases he:oC P (fuel+11) e with
   | none=>rw[he] at ht;cases ht
   | some te=>
    rw[he] at ht;simp only[m7] at ht;obtain⟨_,ht⟩:=aI ht;cases ht;exact hflat rfl (λts h=>by cases h) k2
  | struct fs=>
   obtain⟨cs,rfl,_⟩:=okWide_struct hu hval;simp only at ht
   cases hfs:kT P (oC P (fuel+11)) fs.toList 0 with
   | none=>rw[hfs] at ht;cases ht
   | some ts=>
    rw[hfs] at ht;simp only[m7] at ht;obtain⟨_,ht⟩:=aI ht;cases ht;rw[oF] at k1;refine⟨.ag ds,⟨ds,rfl,k1⟩,?_⟩;rw[QR];exact⟨cs,rfl,k2⟩
  | _=>cases ht
end
section
variable {B:Nat} {ts:List Ty} {ds:List DV} {s:Bool} {h:H}
def oh(hk:fN B [] ds):ds=[]:=by rw[fN] at hk;exact hk
def ig(hk:fN B (.str::ts) ds):∃(x:List Nat) (r:List DV),ds=.fl (.str x)::r/\(∀b∈x,b<256)/\x.length<=B/\fN B ts r:=by
 rw[fN] at hk;obtain⟨d1,d2,rfl,h1,h2⟩:=hk;rw[oF] at h1;obtain⟨x,rfl,h3,h4⟩:=h1;exact⟨x,d2,rfl,h3,h4,h2⟩
def e9{k:IntKind}(hk:fN B (.int k::ts) ds):∃(n:Int) (r:List DV),ds=.fl (.int k n)::r/\(Lit.int k n).wf=true/\fN B ts r:=by
 rw[fN] at hk;obtain⟨d1,d2,rfl,h1,h2⟩:=hk;rw[oF] at h1;obtain⟨n,rfl,h3⟩:=h1;exact⟨n,d2,rfl,h3,h2⟩
def EJ(hk:fN B (.bool::ts) ds):∃(b:Bool) (r:List DV),ds=.fl (.bool b)::r/\fN B ts r:=by
 rw[fN] at hk;obtain⟨d1,d2,rfl,h1,h2⟩:=hk;rw[oF] at h1;obtain⟨b,rfl⟩:=h1;exact⟨b,d2,rfl,h2⟩
def vT{t:Ty}(hk:fN B (.sl t::ts) ds):∃(nl:Bool) (rows:List (List DV)) (r:List DV),ds=.sl nl rows.length t.size rows.flatten::r/\rows.length<=B/\(∀x∈rows,oF B t x)/\fN B ts r:=by
 rw[fN] at hk;obtain⟨d1,d2,rfl,h1,h2⟩:=hk;rw[oF] at h1;obtain⟨nl,rows,rfl,h3,h4⟩:=h1;exact⟨nl,rows,d2,rfl,h3,h4,h2⟩
def Jh:∀{us:List Ty} {d1 d2:List DV},fN B us d1->fN B ts d2->fN B (us++ts) (d1++d2)
 | [],d1,d2,h1,h2=>by rw[fN] at h1;subst h1;exact h2
 | u::us,d1,d2,h1,h2=>by
  rw[fN] at h1;obtain⟨e1,e2,rfl,h3,h4⟩:=h1;show fN B (u::(us++ts)) _;rw[fN];exact⟨e1,e2++d2,List.append_assoc ..,h3,Jh h4 h2⟩
def vU{us:List Ty}(hk:fN B (.st us::ts) ds):fN B (us++ts) ds:=by
 rw[fN] at hk;obtain⟨d1,d2,rfl,h1,h2⟩:=hk;rw[oF] at h1;exact Jh h1 h2
end
def xD:Ex->Bool
 | .normal=>true
 | _=>false
def xE:Ex->LoopState
 | .normal=>.ready
 | _=>.done
def xC:Ex->Option Code
 | .normal=>none
 | .ret=>some .ret
 | .exit i=>some (.exit i)
 | .goto l=>some (.goto l)
noncomputable def Qg(t:Tr AV):Nat->AV:=λi=>(t.get i).getD kJ
def Wm(id:Nat)(Q:AV->H->Prop):Ex->gZ->Prop:=λex st=>st.ds=[]/\∃ls p t n ps a b d,st.h.rl id=some (ls,p,t,n,ps,a,b,d)/\Q (.bool (xD ex)) (st.h.set id (.loop (xE ex) (xC ex) t n ps a b d))
def TY(P:Program)(id:Nat)(b:Code)(Q:AV->H->Prop):Ex->gZ->Prop:=λex st=>ex=.normal/\∃p t n ps a' b' d,st.h.rl id=some (.ready,p,t,n,ps,a',b',d)/\
 l9 P (some id) b ⟨st.f,st.n,st.h.set id (.loop .busy p t n ps a' b' d),st.ds⟩ (Wm id Q)
def dK.yield{P:Program}{id:Nat}{args:List AV}{h:H}{Q:AV->H->Prop}{pend:Option Code}{t:Tr AV}{n:Nat}{ps:Array Tmp}{a b:Code}{dd:Nat}{t1:Tr AV}{f1:Nat->AV}
 (hlo:h.rl id=some (.ready,pend,t,n,ps,a,b,dd)) (hsz:ps.toList.length=args.length) (ht1:kH (ps.toList.zip args) n t=some t1) (hf1:∀i,i<n->f1 i=Qg t1 i)
 (hw:l9 P (some id) a ⟨f1,n,h,[]⟩ (TY P id b Q)):dK P (.yield id) args h Q:=by
 intro σ w p args' hp hv hr;obtain⟨hob,q,hq,f,tmps,qd,hwp,hqd,hT⟩:=wD hr hlo;rw[hp] at hq;cases hq
 have hsz':args'.size=ps.size:=by have:=hv.1;simp at this hsz;omega
 rw[QA hwp hsz'];intro m;refine roundIn_of_wpIn trivial ?_
 have hT1:TR σ t1 n ((ps.zip args').foldl (λtmps (x:Tmp×Value)=>tmps.setIfInBounds x.1 x.2) tmps):=by
  have:=wB ps.toList args args'.toList n t t1 tmps ht1 hv hT;rw[<-Array.foldl_toList,Array.toList_zip];exact this
 have hTF:TF σ f1 n ((ps.zip args').foldl (λtmps (x:Tmp×Value)=>tmps.setIfInBounds x.1 x.2) tmps):=⟨hT1.1,λi hi=>by rw[hf1 i hi];exact hT1.2 i⟩;have hassign:=hw (Fence.wide.inRound p.b) m σ { tmps:=(ps.zip args').foldl (λtmps (x:Tmp×Value)=>tmps.setIfInBounds x.1 x.2) tmps,defers:=[] } w ⟨hTF,hr,trivial⟩ ⟨p,hp,rfl⟩;refine wpIn_mono hassign ?_;rintro e a1 w1 ⟨ex1,st1,⟨rfl,pend2,t2,n2,ps2,a2,b2,dd2,hlo2,hb2⟩,hex1,σ1,hs1,hE1,hn1⟩;have:e=.normal:=hex1;subst this;obtain⟨hob2,q2,hq2,f2,tmps2,qd2,hw2,hqd2,hT2⟩:=wD hs1.h hlo2;rw[hE1.le _ _ hp] at hq2;cases hq2;have hbegin:=Bd (P:=P) hw2 rfl;obtain⟨s1,s2⟩:=hs1.h.ly (o':=.loop .busy pend2 t2 n2 ps2 a2 b2 dd2) (ob:=.loop { state:=.busy,pending:=pend2,fn:=f2,tmps:=tmps2,params:=ps2,assign:=a2,body:=b2,defers:=qd2.b }) hob2 rfl rfl (hE1.le _ _ hp) ⟨f2,tmps2,qd2,rfl,hqd2,hT2⟩;refine⟨_,hbegin,?_⟩;have hbody:=hb2 (Fence.wide.inRound p.b) m σ1 a1 _ ⟨hs1.t,s1,hs1.ds⟩ ⟨p,hE1.le _ _ hp,rfl⟩;refine wpIn_mono hbody ?_;rintro e3 a3 w3 ⟨ex3,st3,⟨hds3,ls4,p4,t4,n4,ps4,a4,b4,dd4,hlo4,hQ⟩,hex3,σ3,hs3,hE3,hn3⟩;have hE13:=(hE1.trans s2).trans hE3;obtain⟨hob4,q4,hq4,f4,tmps4,qd4,hw4,hqd4,hT4⟩:=wD hs3.h hlo4;rw[hE13.le _ _ hp] at hq4;cases hq4
 have fin:∀(s:LoopState) (j:Option Code) (r:Bool),Q (.bool r) (st3.h.set id (.loop s j t4 n4 ps4 a4 b4 dd4))->r=j.isNone->s=(if j.isNone then .ready else .done)->
  ∃v w'',(Instr.endRound p.b j).run P w3=.ok v w''/\∃v',Ending.returned v=.returned v'/\HK σ h w Q v' w'':=by
  intro s j r e1 e2 e3;obtain⟨u1,u2⟩:=hs3.h.ly (o':=.loop s j t4 n4 ps4 a4 b4 dd4) (ob:=.loop { state:=s,pending:=j,fn:=f4,tmps:=tmps4,params:=ps4,assign:=a4,body:=b4,defers:=qd4.b }) hob4 rfl rfl (hE13.le _ _ hp) ⟨f4,tmps4,qd4,rfl,hqd4,hT4⟩;refine⟨_,_,FQ hw4 j,_,rfl,.bool r,_,e1,σ3,by rw[e2];exact .bool _,?_,?_⟩
  ·rw[<-e3];exact u1
  ·rw[<-e3];exact hE13.trans u2
 cases ex3 with
 | normal=>
  have:e3=.normal:=hex3;subst this;exact fin _ _ _ hQ rfl rfl
 | ret=>
  have:e3=.ret:=hex3;subst this;exact fin _ _ _ hQ rfl rfl
 | exit i=>
  have:e3=.exit i:=hex3;subst this;exact fin _ _ _ hQ rfl rfl
 | goto l=>
  have:e3=.goto l:=hex3;subst this;exact fin _ _ _ hQ rfl rfl
def QM(P:Program)(ro:Option Nat)(f:Nat->AV)(n:Nat)(ds:List jy)(id:Nat)(Q:Ex->gZ->Prop)(h':H):Prop:=∃ls p' t' m' ps' a' b' d',h'.rl id=some (ls,p',t',m',ps',a',b',d')/\ls≠.busy/\
 match p' with
 | none=>Q .normal ⟨f,n,h'.set id (.loop .exhausted none t' m' ps' a' b' d'),ds⟩
 | some c=>l9 P ro c ⟨f,n,h'.set id (.loop .exhausted (some c) t' m' ps' a' b' d'),ds⟩ Q
def l9.rangeFunc{P:Program}(hng:uZ P){ro:Option Nat}{g:Operand}{ps:Array Tmp}{assign body:Code}{f:Nat->AV}{n:Nat}{h:H}{ds:List jy}{Q:Ex->gZ->Prop}{fid:FuncId}{fn':Func}{first cap:List AV}{id:Nat}{h1:H}{ds1:List jy}
 (hg:ev (dy f n) g=some (.fn (.func fid) first cap)) (hfn:P.funcs[fid]?=some fn') (hb:fn'.body.isSome=true) (hen:FT ro ps assign body ⟨dy f n,n,h,ds⟩=some (id,⟨dy f n,n,h1,ds1⟩)) {Q1:AV->H->Prop}
 (hc:dK P (.func fid) (first++[.fn (.yield id) [] []]++cap) h1 Q1) (hk:∀v h',Q1 v h'->QM P ro f n ds1 id Q h'):l9 P ro (.rangeFunc g ps assign body) ⟨f,n,h,ds⟩ Q:=by
 intro F m σ a w hs hF;have hgV:=hs.sr.t.ev _ _ hg;refine wpIn_rangeFunc λfn _=>?_;obtain⟨lb,mark,w1,σ1,p,e1,hp,rfl,hs1,hE1,hn1⟩:=Pb (P:=P) hF hs.sr hen fn;generalize hgv:a.eval g=gv at hgV
 cases hgV with
 | @fn _ _ _ fs' cs' hfy k1 k2 k3 k4=>
  have hfs:VL σ1 first fs'.toList:=⟨by simpa using k1,λi a v x y=>(k2 i a v x (by simpa using y)).mono hE1.le⟩
  have hcs:VL σ1 cap cs'.toList:=⟨by simpa using k3,λi a v x y=>(k4 i a v x (by simpa using y)).mono hE1.le⟩
  have hargs:VL σ1 (first++[.fn (.yield id) [] []]++cap) (fs'++#[Value.func (.yield p.b) #[] #[]]++cs').toList:=by
   simp only[b7];exact(hfs.append (.cons (.yield hp) .nil)).append hcs
  have hfine:=hc σ1 w1 _ hargs hs1.h
  have hev:#[Operand.const (Value.func (.yield p.b) #[] #[])].map a.eval=#[Value.func (.yield p.b) #[] #[]]:=by simp[Act.eval]
  have hres:(resolve a.eval (rangeCall g p.b) 0).run P w1=.ok { target:=.fn (.func fid) cs',args:=fs'++#[Value.func (.yield p.b) #[] #[]] } w1:=by
   simp only[resolve,hgv,Deferred.ofValue,m9,hev]
  have hcall:=eM hng hfn hb (fs'++#[Value.func (.yield p.b) #[] #[]]++cs') w1;rw[hcall] at hfine;refine⟨p.b,mark,w1,_,w1,fid,_,w1,e1,hres,λf' _=>hF.fn f',by simpa only[invoke] using hcall,λh=>by rw[hF.depth] at h;simp at h,?_⟩;have h2:=hF.calls (n:=m-1) hfine;refine⟨h2.1,λcs hr=>?_⟩;obtain⟨e,w3,fr,⟨v,rfl,av,h',hQ1,σ3,hV,hh3,hE3⟩,h3⟩:=h2.2 cs hr;refine⟨.returned v,w3,fr,?_,h3⟩;obtain⟨ls,p',t',m',ps',a',b',d',hlo,hnb,hq⟩:=hk _ _ hQ1;obtain⟨ho',q,hq',f0,tm0,qd,g1,g2,g3⟩:=wD hh3 hlo;rw[hE3.le _ _ hp] at hq';cases hq'
  obtain⟨s1,s2⟩:=hh3.ly (o':=.loop .exhausted p' t' m' ps' a' b' d') (ob:=.loop { state:=.exhausted,pending:=p',fn:=f0,tmps:=tm0,params:=ps',assign:=a',body:=b',defers:=qd.b }) ho' rfl rfl (hE3.le _ _ hp)
   ⟨f0,tm0,qd,rfl,g2,g3⟩
  have hend:(Instr.endLoop p.b).run P w3=.ok p' { w3 with heap:=w3.heap.setIfInBounds p.b (.loop { state:=.exhausted,pending:=p',fn:=f0,tmps:=tm0,params:=ps',assign:=a',body:=b',defers:=qd.b }) }:=by
   have hbz:(ls==LoopState.busy)=false:=by cases ls<;>first | rfl | exact t7 rfl hnb
   simp only[Instr.endLoop,Instr.getLoop,n5,cD g1 f5,n7,m9,hbz,be,if_false,eZ g1 f5]
  refine⟨p',_,hend,?_⟩;have hext:=(hE1.trans hE3).trans s2
  have hsf:SF σ3 ⟨f,n,h'.set id (.loop .exhausted p' t' m' ps' a' b' d'),ds1⟩ { a with defers:=mark++a.defers } { w3 with heap:=w3.heap.setIfInBounds p.b (.loop { state:=.exhausted,pending:=p',fn:=f0,tmps:=tm0,params:=ps',assign:=a',body:=b',defers:=qd.b }) }:=
   ⟨hs.t.mono (λi q hi=>hE3.le _ _ (hE1.le _ _ hi)),s1,hs1.ds.mono hE3.le⟩
  cases p' with
  | none=>exact⟨_,_,hq,rfl,σ3,hsf,hext,rfl⟩
  | some c=>exact l9.wide (st:=⟨f,n,_,ds1⟩) hq hsf (hF.mono hext.le) hext rfl
def l9.wc(hng:uZ P){g:Operand}{assign body:Code}{f:Nat->AV}{n:Nat}{O:Tr AO}{F:Tr (Nat×Nat)}{N lw:Nat}{fid:FuncId}{fn':Func}{first:List AV}
 (hg:ev (dy f n) g=some (.fn (.func fid) first cap)) (hfn:P.funcs[fid]?=some fn') (hb:fn'.body.isSome=true) {Q1:AO->AV->H->Prop}
 (hc:∀lp,lp=AO.loop .ready none (dy f n) n ps assign body N->dK P (.func fid) (first++[.fn (.yield (N+1)) [] []]++cap) ⟨(O.put N (some (.pT false))).put (N+1) (some lp),F,N+2,lw⟩ (Q1 lp))
 (hk:∀lp v h',lp=AO.loop .ready none (dy f n) n ps assign body N->Q1 lp v h'->QM P none f n ({ fn:=none,sZ:=N,args:=[],cap:=[] }::ds) (N+1) Q h'):l9 P none (.rangeFunc g ps assign body) ⟨f,n,⟨O,F,N,lw⟩,ds⟩ Q:=
 l9.rangeFunc hng hg hfn hb rfl (hc _ rfl) λv h' h1=>hk _ v h' rfl h1
inductive SV where
 | any
 | a (v:AV)
 | sl (n e:Nat) (cs:List SV)
 | im (ks:List AV) (vs:List SV)
 | ip (cs:List SV)
 | ptr (o off:Nat)
 | map (o:Nat)
 | buf (o n e:Nat) (c:Option Nat)
 | sub (o off n e:Nat) (c:Option Nat)
 | e0 (e:Nat)
 | ag (cs:List SV)
 | bB (vs:List SV)
 | fn (g:FuncId) (first cap:List SV)
 | iface (t:TypeId) (v:SV)
 deriving Inhabited
abbrev Fm:=List (Nat×SV)
def aP:Fm->Nat->SV
 | [],_=>.any
 | (d,v)::l,i=>if d=i then v else aP l i
structure hY where
 id:Nat
 t:Tr AV
 n:Nat
 ps:Array Tmp
 a:Code
 b:Code
 d:Nat
inductive SO where
 | cells (cs:List SV)
 | map (ks:List AV) (vs:List SV) (b:Option (List Nat×Nat))
 | iter (m:SV) (bs:List Nat) (c:Nat) (pos:List Nat)
 | qj (ks:List AV) (vs:List SV) (bs:List Nat) (c:Nat) (pos:List Nat)
 | gone
 | loop (c:hY) (ls:LoopState) (p:Option Code) (f:List (Nat×SV))
 | pT (N:Nat)
structure Loc where
 id:Nat
 bX:Nat
 x:Nat
 y:Nat
abbrev lD:=Nat->Option AO
def pw(l:List (AV×AV×Nat))(c:Nat):Prop:=(l.map (·.2.2)).Nodup/\∀e∈l,e.2.2<c
def T0(l:List (AV×AV×Nat))(c:Nat)(ks:List AV)(b:Option (List Nat×Nat)):Prop:=l.map (·.1)=ks/\pw l c/\∀p,b=some p->l.map (·.2.2)=p.1/\c=p.2
def rE(ρ:lD)(id:Nat):Option (List AV):=match ρ id with
 | some (.cells cs _)=>some cs
 | some (.ro cs)=>some cs
 | _=>none
mutual
def GS(ρ:lD):SV->AV->Prop
 | .any,_=>True
 | .a v,x=>x=v
 | .sl n e cs,x=>(n=0/\cs=[]/\∃o e' c,x=.slice o 0 e' c/\(o=none->c=some 0)/\(o≠none->e'=e))\/
  (∃id off cap row,x=.slice (some (id,off)) n e cap/\rE ρ id=some row/\off+n*e<=row.length/\lF ρ cs ((row.drop off).take (n*e)))
 | .im ks vs,x=>∃id l c,x=.map (some id)/\ρ id=some (.map l c)/\T0 l c ks none/\lF ρ vs (l.map (·.2.1))
 | .ip cs,x=>∃id off row r,x=.ptr (some (id,off))/\rE ρ id=some row/\off+r<=row.length/\lF ρ cs ((row.drop off).take r)
 | .ptr _ _,_=>False
 | .map _,_=>False
 | .buf _ _ _ _,_=>False
 | .sub _ _ _ _ _,_=>False
 | .e0 e,x=>∃o e',x=.slice o 0 e' (some 0)/\(o≠none->e'=e)
 | .ag cs,x=>∃aS,x=.agg aS/\lF ρ cs aS
 | .bB cs,x=>∃aS,x=.bB aS/\lF ρ cs aS
 | .fn g first cap,x=>∃xs ys,x=.fn (.func g) xs ys/\lF ρ first xs/\lF ρ cap ys
 | .iface t v,x=>∃y,x=.iface t y/\GS ρ v y
def lF(ρ:lD):List SV->List AV->Prop
 | [],aS=>aS=[]
 | d::ds,aS=>∃a r,aS=a::r/\GS ρ d a/\lF ρ ds r
end
mutual
def VS(θ:Nat->Loc)(ρ:lD):SV->AV->Prop
 | .any,_=>True
 | .a v,x=>x=v
 | .sl n e cs,x=>GS ρ (.sl n e cs) x
 | .im ks vs,x=>GS ρ (.im ks vs) x
 | .ip cs,x=>GS ρ (.ip cs) x
 | .ptr o off,x=>x=.ptr (some ((θ o).id,off))
 | .map o,x=>x=.map (some (θ o).id)
 | .buf o n e c,x=>x=.slice (some ((θ o).id,0)) n e c
 | .sub o off n e c,x=>x=.slice (some ((θ o).id,off)) n e c
 | .e0 e,x=>∃o e',x=.slice o 0 e' (some 0)/\(o≠none->e'=e)
 | .ag cs,x=>∃aS,x=.agg aS/\df θ ρ cs aS
 | .bB cs,x=>∃aS,x=.bB aS/\df θ ρ cs aS
 | .fn g first cap,x=>∃xs ys,x=.fn (.func g) xs ys/\df θ ρ first xs/\df θ ρ cap ys
 | .iface t v,x=>∃y,x=.iface t y/\VS θ ρ v y
def df(θ:Nat->Loc)(ρ:lD):List SV->List AV->Prop
 | [],aS=>aS=[]
 | d::ds,aS=>∃a r,aS=a::r/\VS θ ρ d a/\df θ ρ ds r
end
section
variable {θ:Nat->Loc} {ρ:lD} {x:AV}
def iB:lF ρ [] aS↔aS=[]:=by rw[lF]
def e7{d:SV}{ds:List SV}:lF ρ (d::ds) aS↔∃a r,aS=a::r/\GS ρ d a/\lF ρ ds r:=by rw[lF]
def aU:df θ ρ [] aS↔aS=[]:=by rw[df]
def aG{d:SV}{ds:List SV}:df θ ρ (d::ds) aS↔∃a r,aS=a::r/\VS θ ρ d a/\df θ ρ ds r:=by rw[df]
def lF.length:∀{ds:List SV} {aS:List AV},lF ρ ds aS->aS.length=ds.length
 | [],aS,h=>by rw[iB] at h;subst h;rfl
 | d::ds,aS,h=>by
  rw[e7] at h;obtain⟨a,r,rfl,_,h2⟩:=h;simp[lF.length h2]
def df.length:∀{ds:List SV} {aS:List AV},df θ ρ ds aS->aS.length=ds.length
 | [],aS,h=>by rw[aU] at h;subst h;rfl
 | d::ds,aS,h=>by
  rw[aG] at h;obtain⟨a,r,rfl,_,h2⟩:=h;simp[df.length h2]
mutual
def GS.vs:∀{v:SV} {x:AV},GS ρ v x->VS θ ρ v x
 | .any,_,_=>by rw[VS];trivial
 | .a v,x,h=>by rw[VS];rw[GS] at h;exact h
 | .sl n e cs,x,h=>by rw[VS];exact h
 | .im ks vs,x,h=>by rw[VS];exact h
 | .ip cs,x,h=>by rw[VS];exact h
 | .ptr _ _,_,h=>by rw[GS] at h;exact h.elim
 | .map _,_,h=>by rw[GS] at h;exact h.elim
 | .buf _ _ _ _,_,h=>by rw[GS] at h;exact h.elim
 | .sub _ _ _ _ _,_,h=>by rw[GS] at h;exact h.elim
 | .e0 e,x,h=>by rw[GS] at h;rw[VS];exact h
 | .ag cs,x,h=>by rw[VS];rw[GS] at h;obtain⟨aS,h1,h2⟩:=h;exact⟨aS,h1,lF.vs h2⟩
 | .bB cs,x,h=>by rw[VS];rw[GS] at h;obtain⟨aS,h1,h2⟩:=h;exact⟨aS,h1,lF.vs h2⟩
 | .fn g f c,x,h=>by rw[VS];rw[GS] at h;obtain⟨xs,ys,h1,h2,h3⟩:=h;exact⟨xs,ys,h1,lF.vs h2,lF.vs h3⟩
 | .iface t v,x,h=>by rw[VS];rw[GS] at h;obtain⟨y,h1,h2⟩:=h;exact⟨y,h1,GS.vs h2⟩
def lF.vs:∀{ds:List SV} {aS:List AV},lF ρ ds aS->df θ ρ ds aS
 | [],aS,h=>by rw[aU];rw[iB] at h;exact h
 | d::ds,aS,h=>by
  rw[aG];rw[e7] at h;obtain⟨a,r,h1,h2,h3⟩:=h;exact⟨a,r,h1,GS.vs h2,lF.vs h3⟩
end
def E2{ρ':lD}(hm:∀id ob,ρ id=some ob->ρ' id=some ob){row:List AV}(h:rE ρ id=some row):rE ρ' id=some row:=by
 unfold rE at h ⊢
 cases hr:ρ id with
 | none=>rw[hr] at h;cases h
 | some ob=>rw[hm id ob hr];rw[hr] at h;exact h
mutual
def GS.mono{ρ':lD}(hm:∀id ob,ρ id=some ob->ρ' id=some ob):∀{v:SV} {x:AV},GS ρ v x->GS ρ' v x
 | .any,_,_=>by rw[GS];trivial
 | .a v,x,h=>by rw[GS] at h ⊢;exact h
 | .sl n e cs,x,h=>by
  rw[GS] at h ⊢
  rcases h with h | ⟨id,off,cap,row,h1,h2,h3,h4⟩
  ·exact .inl h
  ·exact .inr ⟨id,off,cap,row,h1,E2 hm h2,h3,lF.mono hm h4⟩
 | .im ks vs,x,h=>by
  rw[GS] at h ⊢;obtain⟨id,l,c,h1,h2,h3,h4⟩:=h;exact⟨id,l,c,h1,hm _ _ h2,h3,lF.mono hm h4⟩
 | .ip cs,x,h=>by
  rw[GS] at h ⊢;obtain⟨id,off,row,r,h1,h2,h3,h4⟩:=h;exact⟨id,off,row,r,h1,E2 hm h2,h3,lF.mono hm h4⟩
 | .ptr _ _,_,h=>by rw[GS] at h;exact h.elim
 | .map _,_,h=>by rw[GS] at h;exact h.elim
 | .buf _ _ _ _,_,h=>by rw[GS] at h;exact h.elim
 | .sub _ _ _ _ _,_,h=>by rw[GS] at h;exact h.elim
 | .e0 e,x,h=>by rw[GS] at h ⊢;exact h
 | .ag cs,x,h=>by rw[GS] at h ⊢;obtain⟨aS,h1,h2⟩:=h;exact⟨aS,h1,lF.mono hm h2⟩
 | .bB cs,x,h=>by rw[GS] at h ⊢;obtain⟨aS,h1,h2⟩:=h;exact⟨aS,h1,lF.mono hm h2⟩
 | .fn g f c,x,h=>by rw[GS] at h ⊢;obtain⟨xs,ys,h1,h2,h3⟩:=h;exact⟨xs,ys,h1,lF.mono hm h2,lF.mono hm h3⟩
 | .iface t v,x,h=>by rw[GS] at h ⊢;obtain⟨y,h1,h2⟩:=h;exact⟨y,h1,GS.mono hm h2⟩
def lF.mono{ρ':lD}(hm:∀id ob,ρ id=some ob->ρ' id=some ob):∀{ds:List SV} {aS:List AV},lF ρ ds aS->lF ρ' ds aS
 | [],aS,h=>by rw[iB] at h ⊢;exact h
 | d::ds,aS,h=>by
  rw[e7] at h ⊢;obtain⟨a,r,h1,h2,h3⟩:=h;exact⟨a,r,h1,GS.mono hm h2,lF.mono hm h3⟩
end
mutual
def VS.mono{ρ':lD}(hm:∀id ob,ρ id=some ob->ρ' id=some ob):∀{v:SV} {x:AV},VS θ ρ v x->VS θ ρ' v x
 | .any,_,_=>by rw[VS];trivial
 | .a v,x,h=>by rw[VS] at h ⊢;exact h
 | .sl n e cs,x,h=>by rw[VS] at h ⊢;exact h.mono hm
 | .im ks vs,x,h=>by rw[VS] at h ⊢;exact h.mono hm
 | .ip cs,x,h=>by rw[VS] at h ⊢;exact h.mono hm
 | .ptr _ _,_,h=>by rw[VS] at h ⊢;exact h
 | .map _,_,h=>by rw[VS] at h ⊢;exact h
 | .buf _ _ _ _,_,h=>by rw[VS] at h ⊢;exact h
 | .sub _ _ _ _ _,_,h=>by rw[VS] at h ⊢;exact h
 | .e0 e,x,h=>by rw[VS] at h ⊢;exact h
 | .ag cs,x,h=>by rw[VS] at h ⊢;obtain⟨aS,h1,h2⟩:=h;exact⟨aS,h1,df.mono hm h2⟩
 | .bB cs,x,h=>by rw[VS] at h ⊢;obtain⟨aS,h1,h2⟩:=h;exact⟨aS,h1,df.mono hm h2⟩
 | .fn g f c,x,h=>by rw[VS] at h ⊢;obtain⟨xs,ys,h1,h2,h3⟩:=h;exact⟨xs,ys,h1,df.mono hm h2,df.mono hm h3⟩
 | .iface t v,x,h=>by rw[VS] at h ⊢;obtain⟨y,h1,h2⟩:=h;exact⟨y,h1,VS.mono hm h2⟩
def df.mono{ρ':lD}(hm:∀id ob,ρ id=some ob->ρ' id=some ob):∀{ds:List SV} {aS:List AV},df θ ρ ds aS->df θ ρ' ds aS
 | [],aS,h=>by rw[aU] at h ⊢;exact h
 | d::ds,aS,h=>by
  rw[aG] at h ⊢;obtain⟨a,r,h1,h2,h3⟩:=h;exact⟨a,r,h1,VS.mono hm h2,df.mono hm h3⟩
end
mutual
def names(o:Nat):SV->Bool
 | .ptr p _=>decide (p=o)
 | .map p=>decide (p=o)
 | .buf p _ _ _=>decide (p=o)
 | .sub p _ _ _ _=>decide (p=o)
 | .ag cs=>iW o cs
 | .bB cs=>iW o cs
 | .fn _ f c=>iW o f||iW o c
 | .iface _ v=>names o v
 | _=>false
def iW(o:Nat):List SV->Bool
 | []=>false
 | d::ds=>names o d||iW o ds
end
mutual
def VS.wJ{θ':Nat->Loc}{o:Nat}(hθ:∀p,p≠o->θ' p=θ p):∀{v:SV} {x:AV},names o v=false->VS θ ρ v x->VS θ' ρ v x
 | .any,_,_,_=>by rw[VS];trivial
 | .a v,x,_,h=>by rw[VS] at h ⊢;exact h
 | .sl n e cs,x,_,h=>by rw[VS] at h ⊢;exact h
 | .im ks vs,x,_,h=>by rw[VS] at h ⊢;exact h
 | .ip cs,x,_,h=>by rw[VS] at h ⊢;exact h
 | .ptr p _,_,hn,h=>by rw[VS] at h ⊢;rw[names] at hn;rw[hθ p (wt hn)];exact h
 | .map p,_,hn,h=>by rw[VS] at h ⊢;rw[names] at hn;rw[hθ p (wt hn)];exact h
 | .buf p _ _ _,_,hn,h=>by rw[VS] at h ⊢;rw[names] at hn;rw[hθ p (wt hn)];exact h
 | .sub p _ _ _ _,_,hn,h=>by rw[VS] at h ⊢;rw[names] at hn;rw[hθ p (wt hn)];exact h
 | .e0 e,x,_,h=>by rw[VS] at h ⊢;exact h
 | .ag cs,x,hn,h=>by rw[VS] at h ⊢;rw[names] at hn;obtain⟨aS,h1,h2⟩:=h;exact⟨aS,h1,df.wJ hθ hn h2⟩
 | .bB cs,x,hn,h=>by rw[VS] at h ⊢;rw[names] at hn;obtain⟨aS,h1,h2⟩:=h;exact⟨aS,h1,df.wJ hθ hn h2⟩
 | .fn g f c,x,hn,h=>by
  rw[VS] at h ⊢;rw[names,bx] at hn;obtain⟨xs,ys,h1,h2,h3⟩:=h;exact⟨xs,ys,h1,df.wJ hθ hn.1 h2,df.wJ hθ hn.2 h3⟩
 | .iface t v,x,hn,h=>by rw[VS] at h ⊢;rw[names] at hn;obtain⟨y,h1,h2⟩:=h;exact⟨y,h1,VS.wJ hθ hn h2⟩
def df.wJ{θ':Nat->Loc}{o:Nat}(hθ:∀p,p≠o->θ' p=θ p):∀{ds:List SV} {aS:List AV},iW o ds=false->df θ ρ ds aS->df θ' ρ ds aS
 | [],aS,_,h=>by rw[aU] at h ⊢;exact h
 | d::ds,aS,hn,h=>by
  rw[aG] at h ⊢;rw[iW,bx] at hn;obtain⟨a,r,h1,h2,h3⟩:=h;exact⟨a,r,h1,VS.wJ hθ hn.1 h2,df.wJ hθ hn.2 h3⟩
end
def df.app:∀{d1 d2:List SV} {a1 a2:List AV},df θ ρ d1 a1->df θ ρ d2 a2->df θ ρ (d1++d2) (a1++a2)
 | [],d2,a1,a2,h1,h2=>by rw[aU] at h1;subst h1;exact h2
 | d::ds,d2,a1,a2,h1,h2=>by
  rw[aG] at h1;obtain⟨a,r,rfl,g1,g2⟩:=h1;show df θ ρ (d::(ds++d2)) _;rw[aG];exact⟨a,r++a2,rfl,g1,df.app g2 h2⟩
def df.drop:∀(k:Nat) {ds:List SV} {aS:List AV},df θ ρ ds aS->df θ ρ (ds.drop k) (aS.drop k)
 | 0,_,_,h=>h
 | k+1,[],aS,h=>by rw[aU] at h;subst h;rw[d3,d3,aU]
 | k+1,d::ds,aS,h=>by
  rw[aG] at h;obtain⟨a,r,rfl,_,h2⟩:=h;exact df.drop k h2
def df.take:∀(k:Nat) {ds:List SV} {aS:List AV},df θ ρ ds aS->df θ ρ (ds.take k) (aS.take k)
 | 0,_,_,h=>by rw[c4,c4,aU]
 | k+1,[],aS,h=>by rw[aU] at h;subst h;rw[d5,d5,aU]
 | k+1,d::ds,aS,h=>by
  rw[aG] at h;obtain⟨a,r,rfl,h1,h2⟩:=h;rw[b5,b5,aG];exact⟨a,_,rfl,h1,df.take k h2⟩
def lF.drop:∀(k:Nat) {ds:List SV} {aS:List AV},lF ρ ds aS->lF ρ (ds.drop k) (aS.drop k)
 | 0,_,_,h=>h
 | k+1,[],aS,h=>by rw[iB] at h;subst h;rw[d3,d3,iB]
 | k+1,d::ds,aS,h=>by
  rw[e7] at h;obtain⟨a,r,rfl,_,h2⟩:=h;exact lF.drop k h2
def lF.take:∀(k:Nat) {ds:List SV} {aS:List AV},lF ρ ds aS->lF ρ (ds.take k) (aS.take k)
 | 0,_,_,h=>by rw[c4,c4,iB]
 | k+1,[],aS,h=>by rw[iB] at h;subst h;rw[d5,d5,iB]
 | k+1,d::ds,aS,h=>by
  rw[e7] at h;obtain⟨a,r,rfl,h1,h2⟩:=h;rw[b5,b5,e7];exact⟨a,_,rfl,h1,lF.take k h2⟩
def df.get:∀{ds:List SV} {aS:List AV},df θ ρ ds aS->∀{i:Nat} {d:SV},ds[i]?=some d->∃a,aS[i]?=some a/\VS θ ρ d a
 | [],_,_,i,d,h=>by simp at h
 | d0::ds,aS,h,i,d,hd=>by
  rw[aG] at h;obtain⟨a,r,rfl,h1,h2⟩:=h
  cases i with
  | zero=>simp only[bb,n8] at hd;subst hd;exact⟨a,rfl,h1⟩
  | succ i=>simp only[aj] at hd ⊢;exact df.get h2 hd
def lF.get:∀{ds:List SV} {aS:List AV},lF ρ ds aS->∀{i:Nat} {d:SV},ds[i]?=some d->∃a,aS[i]?=some a/\GS ρ d a
 | [],_,_,i,d,h=>by simp at h
 | d0::ds,aS,h,i,d,hd=>by
  rw[e7] at h;obtain⟨a,r,rfl,h1,h2⟩:=h
  cases i with
  | zero=>simp only[bb,n8] at hd;subst hd;exact⟨a,rfl,h1⟩
  | succ i=>simp only[aj] at hd ⊢;exact lF.get h2 hd
def df.set:∀{ds:List SV} {aS:List AV},df θ ρ ds aS->∀(i:Nat) {d:SV} {a:AV},VS θ ρ d a->df θ ρ (ds.set i d) (aS.set i a)
 | [],_,h,i,d,a,_=>by rw[aU] at h;subst h;rw[set_nil,set_nil,aU]
 | d0::ds,aS,h,i,d,a,hv=>by
  rw[aG] at h;obtain⟨b,r,rfl,h1,h2⟩:=h
  cases i with
  | zero=>rw[c2,c2,aG];exact⟨a,r,rfl,hv,h2⟩
  | succ i=>rw[cX,cX,aG];exact⟨b,_,rfl,h1,df.set h2 i hv⟩
end
def oG(θ:Nat->Loc)(ρ:lD)(h:H)(L:Loc):SO->Prop
 | .cells cs=>∃aS,h.aV.get L.id=some (.cells aS L.bX)/\df θ ρ cs aS/\h.dN.get L.bX=some (L.x,L.y)
 | .map ks vs b=>∃l c,h.aV.get L.id=some (.map l c)/\T0 l c ks b/\df θ ρ vs (l.map (·.2.1))
 | .gone=>True
 | .iter m bs c pos=>∃lE,VS θ ρ m (.map (some lE))/\h.aV.get L.id=some (.jQ (some lE) c (pos.map λj=>bs.getD j 0) c)
 | .qj ks vs bs c pos=>∃lE l,ρ lE=some (.map l c)/\T0 l c ks (some (bs,c))/\lF ρ vs (l.map (·.2.1))/\h.aV.get L.id=some (.jQ (some lE) c (pos.map λj=>bs.getD j 0) c)
 | .loop c ls p f=>L.id=c.id/\h.aV.get L.id=some (.loop ls p c.t c.n c.ps c.a c.b c.d)/\∀i,i<c.n->VS θ ρ (aP f i) (Qg c.t i)
 | .pT N=>L.id=N/\h.aV.get L.id=some (.pT false)
structure En where
 h:H
 pr:Nat->Prop
 pf:Nat->Prop
 lo:Nat
 w:Nat->AV
structure Yu (e:En):Prop where
 pr:∀j,e.pr j->j<e.h.next
 pf:∀j,e.pf j->j<e.h.next
 lo:∀j,¬e.pr j->e.lo<=j
 ln:e.lo<=e.h.next
structure HL (b:En) (n:Nat) (L:Loc):Prop where
 e:L.id=L.x\/L.id=L.y
 x:¬b.pr L.x/\L.x<n
 y:¬b.pr L.y/\L.y<n
 f:¬b.pf L.bX/\L.bX<n
structure xg (L M:Loc):Prop where
 xx:L.x≠M.x
 xy:L.x≠M.y
 yx:L.y≠M.x
 yy:L.y≠M.y
 f:L.bX≠M.bX
structure RS (θ:Nat->Loc) (ρ0 ρ:lD) (h0:En) (h:H) (S:List SO):Prop where
 ok:Yu h0
 nx:h0.h.next<=h.next
 ob:∀j,h0.pr j->h.aV.get j=h0.h.aV.get j
 fm:∀j,h0.pf j->h.dN.get j=h0.h.dN.get j
 lw:h0.lo<=h.low
 ln:h.low<=h.next
 obj:∀o so,S[o]?=some so->so≠.gone->HL h0 h.next (θ o)/\oG θ ρ h (θ o) so
 sep:∀o o' so so',o≠o'->S[o]?=some so->so≠.gone->S[o']?=some so'->so'≠.gone->xg (θ o) (θ o')
 row:∀id ob,ρ id=some ob->id<h.next/\h.aV.get id=some ob/\∀o so,S[o]?=some so->so≠.gone->id≠(θ o).x/\id≠(θ o).y
 nO:∀id ob,ρ id=some ob->ρ0 id=some ob\/¬h0.pr id
structure FR (θ:Nat->Loc) (ρ:lD) (f:Nat->SV) (af:Nat->AV) (n:Nat) (w:Nat->AV):Prop where
 v:∀i,VS θ ρ (f i) (if i<n then af i else w i)
 u:∀i,i<1000000->w i=kJ
theorem RS.w{θ:Nat->Loc}{ρ0 ρ:lD}{h0:En}{h:H}{S:List SO}(hR:RS θ ρ0 ρ h0 h S)(w:Nat->AV):RS θ ρ0 ρ { h0 with w:=w } h S:=
 ⟨⟨hR.ok.pr,hR.ok.pf,hR.ok.lo,hR.ok.ln⟩,hR.nx,hR.ob,hR.fm,hR.lw,hR.ln,λo so h1 h2=>by
  obtain⟨⟨k1,k2,k3,k4⟩,k5⟩:=hR.obj o so h1 h2
  exact⟨⟨k1,k2,k3,k4⟩,k5⟩,hR.sep,hR.row,hR.nO⟩
def C5:AV->SV
 | .agg cs=>.ag (cs.map .a)
 | v=>.a v
def db:SV->Option (List SV)
 | .any=>none
 | .ag cs=>some cs
 | .a (.agg cs)=>some (cs.map .a)
 | v=>some [v]
def fw:SV->Bool
 | .any=>false
 | .a v=>lu v
 | .ag _=>false
 | .bB _=>false
 | _=>true
def aW(o:Nat)(v:SV):SV:=cond (names o v) .any v
def eg(o:Nat)(f:Fm):Fm:=f.map λp=>(p.1,aW o p.2)
def cx(o:Nat):SO->SO
 | .cells cs=>.cells (cs.map (aW o))
 | .map ks vs b=>.map ks (vs.map (aW o)) b
 | .iter m bs c pos=>.iter (aW o m) bs c pos
 | .qj ks vs bs c pos=>.qj ks vs bs c pos
 | .gone=>.gone
 | .loop c ls p f=>.loop c ls p (eg o f)
 | .pT N=>.pT N
def fp(f:Fm):Operand->Option SV
 | .tmp i=>if i<1000000 then some (aP f i) else none
 | .const v=>(mM mQ v).map C5
 | .func g=>some (.fn g [] [])
 | .global _=>none
def pM(f:Fm):List Operand->Option (List SV)
 | []=>some []
 | x::l=>(fp f x).bind λa=>(pM f l).map λb=>a::b
def mV(f:Fm):List (Nat×Operand)->Option (List (Nat×SV))
 | []=>some []
 | (i,x)::l=>(fp f x).bind λa=>(mV f l).map λb=>(i,a)::b
def Ap(f:Fm):Option Operand->Option (Option AV)
 | none=>some none
 | some x=>match fp f x with
  | some (.a v)=>some (some v)
  | _=>none
def r9(p:Prop)[Decidable p](x:Option α):Option α:=if p then x else none
def KC(P:Program)(t:TypeId):Option (Nat×Bool):=(sy P t).bind λb=>(cJ P t).map λn=>(n,b)
def Lk(P:Program)(s:TypeId)(f:Nat):Option (Nat×TypeId×Nat):=match P.underlying s with
 | some (.struct fs)=>cond (fs.toList.all λf=>(cJ P f.type).isSome) ((fs[f]?).bind λfd=>(cJ P fd.type).map λn=>(fd.offset,fd.type,n)) none
 | _=>none
def Ua(P:Program)(t:TypeId):Option (Option Nat):=match P.underlying t with
 | some (.struct fs)=>cond (fs.toList.all λf=>(cJ P f.type).isSome) (some none) none
 | some (.array _ e)=>(cJ P e).map some
 | _=>none
def Lc(P:Program)(t:TypeId):Option (TypeId×Nat):=match P.underlying t with
 | some (.slice e)=>(cJ P e).map λs=>(e,s)
 | _=>none
def VE(P:Program)(t:TypeId):Option (Nat×TypeId×Nat):=match P.underlying t with
 | some (.array n e)=>(cJ P e).map λs=>(n,e,s)
 | _=>none
inductive TK where
 | str | sl | map | other
def jw(P:Program)(t:TypeId):TK:=match P.underlying t with
 | some .string=>.str
 | some (.slice _)=>.sl
 | some (.map _ _)=>.map
 | _=>.other
def vY(P:Program)(t:TypeId)(cs:List SV)(off:Nat):Option SV:=(KC P t).bind λq=>match q.2 with
 | true=>r9 (off+q.1<=cs.length) (some (.ag ((cs.drop off).take q.1)))
 | false=>cs[off]?
def vr(place:Nat->Option (Nat×Nat))(cells:List SV):List (Nat×SV)->Option (List SV)
 | []=>some cells
 | (i,v)::rest=>match place i with
  | none=>none
  | some (off,size)=>(db v).bind λcs=>
   r9 (cs.length=size/\off+size<=cells.length) (vr place (cells.take off++(cs++cells.drop (off+size))) rest)
def FL(P:Program)(t:TypeId)(parts:List (Nat×SV)):Option SV:=
 (dE P t).bind λz=>(Ua P t).bind λq=>match q with
  | none=>(vr (λi=>(Lk P t i).map λq=>(q.1,q.2.2)) (z.cells.map .a) parts).map .ag
  | some s=>(vr (λi=>some (i*s,s)) (z.cells.map .a) parts).map .ag
def oN(P:Program)(t:TypeId)(len:Nat)(parts:List (Nat×SV)):Option (Nat×List SV):=
 (Lc P t).bind λq=>(dE P q.1).bind λz=>
  r9 (len*q.2<=16777216/\z.cells.length=q.2/\q.2≠0)
   ((vr (λi=>some (i*q.2,q.2)) ((rep z.cells len).map .a) parts).map λcs=>(q.2,cs))
mutual
def cU:SV->Option AV
 | .a v=>some v
 | .ag cs=>(jM cs).map .agg
 | .iface t v=>(cU v).map (.iface t)
 | _=>none
def jM:List SV->Option (List AV)
 | []=>some []
 | d::ds=>(cU d).bind λa=>(jM ds).map λb=>a::b
end
def PN:SV->Option Nat
 | .a v=>dx v
 | _=>none
def sj(P:Program)(kt:TypeId)(k:AV):List AV->Nat->Option (Option Nat)
 | [],_=>some none
 | e::es,i=>match mL P 4 kt k e with
  | some true=>some (some i)
  | some false=>sj P kt k es (i+1)
  | none=>none
def Ah(S:List SO):SV->Option (List AV×List SV)
 | .map o=>match S[o]? with
  | some (.map ks vs _)=>some (ks,vs)
  | _=>none
 | .im ks vs=>some (ks,vs)
 | .a (.map none)=>some ([],[])
 | _=>none
def eJ(P:Program)(S:List SO)(t:TypeId)(x k:SV)(ok:Bool):Option SV:=
 (c9 P t).bind λ(kt,et)=>(cU k).bind λk=>cond (vI P kt k)
  ((Ah S x).bind λ(ks,vs)=>(sj P kt k ks 0).bind λr=>
   let v:Option (SV×Bool):=match r with
    | some i=>(vs[i]?).map λe=>(e,true)
    | none=>(dE P et).map λz=>(C5 z,false)
   v.map λ(v,b)=>cond ok (.bB [v,.a (.bool b)]) v) none
def gn(P:Program)(S:List SO)(t:TypeId)(x k v:SV):Option (List SO):=
 (c9 P t).bind λ(kt,_)=>(cU k).bind λk=>cond (vI P kt k)
  (
   match x with
   | .map o=>match S[o]? with
    | some (.map ks vs b)=>(sj P kt k ks 0).bind λr=>match r with
     | some i=>(ks[i]?).bind λk0=>cond (stays k k0) (some (S.set o (.map (ks.set i k) (vs.set i v) b))) none
     | none=>some (S.set o (.map (ks++[k]) (vs++[v]) (b.map λp=>(p.1++[p.2],p.2+1))))
    | _=>none
   | _=>none) none
def O8(P:Program)(S:List SO)(t:TypeId)(x k:SV):Option (List SO):=
 (c9 P t).bind λ(kt,_)=>(cU k).bind λk=>cond (vI P kt k)
  (
   match x with
   | .map o=>match S[o]? with
    | some (.map ks vs b)=>(sj P kt k ks 0).map λr=>match r with
     | some i=>S.set o (.map (ks.eraseIdx i) (vs.eraseIdx i) (b.map λp=>(p.1.eraseIdx i,p.2)))
     | none=>S
    | _=>none
   | _=>none) none
def BW(P:Program)(S:List SO)(t:TypeId)(x:SV):Option Nat:=match jw P t,x with
 | .str,.a (.str s)=>some s.length
 | .sl,.sl n _ _=>some n
 | .sl,.buf _ n _ _=>some n
 | .sl,.a (.slice none n _ _)=>some n
 | .map,x=>(Ah S x).map λe=>e.1.length
 | .sl,.sub _ _ n _ _=>some n
 | .sl,.e0 _=>some 0
 | _,_=>none
def wx(S:List SO)(s:Nat):SV->Option (Nat×List SV)
 | .sl n e cs=>r9 (e=s) (some (n,cs))
 | .buf o n e _=>match S[o]? with
  | some (.cells cs)=>r9 (e=s/\n*s<=cs.length) (some (n,cs.take (n*s)))
  | _=>none
 | .a (.slice none 0 0 (some 0))=>some (0,[])
 | .sub o off n e _=>match S[o]? with
  | some (.cells cs)=>r9 (e=s/\off+n*s<=cs.length) (some (n,(cs.drop off).take (n*s)))
  | _=>none
 | .e0 _=>some (0,[])
 | _=>none
def eC(o:Nat)(S:List SO):List SO:=S.map (cx o)
def iX(S:List SO)(so:SO):List SO:=eC S.length S++[cx S.length so]
def qV(P:Program)(e:TypeId):Bool:=match P.info? e with
 | some i=>ble i.bytes 10000
 | none=>false
def QW(S:List SO):SV->Option (SV×List SO×Option Nat)
 | .a (.slice none 0 0 (some 0))=>some (.a (.slice none 0 0 (some 0)),S,none)
 | .buf o n e c=>r9 (n<=1000000) (some (.buf o n e c,S,none))
 | .e0 e=>some (.e0 e,S,none)
 | _=>none
def OK(S:List SO)(s:Nat)(x:SV)(p:Nat×List SV):Option (SV×List SO×Option Nat):=match x with
 | .a (.slice none 0 0 (some 0))=>some (.buf S.length p.1 s none,iX S (.cells p.2),some S.length)
 | .buf o n es none=>match S[o]? with
  | some (.cells cs)=>r9 (es=s/\n<=1000000/\n*es<=cs.length)
   (some (.buf o (n+p.1) es none,(eC o S).set o (cx o (.cells (cs.take (n*es)++p.2))),some o))
  | _=>none
 | .e0 e=>r9 (e=s) (some (.buf S.length p.1 s none,iX S (.cells p.2),some S.length))
 | .buf o n es (some c)=>match S[o]? with
  | some (.cells cs)=>r9 (es=s/\n<=1000000/\n*es<=cs.length/\c<n+p.1)
   (some (.buf S.length (n+p.1) es none,iX S (.cells (cs.take (n*es)++p.2)),some S.length))
  | _=>none
 | _=>none
def isInt(P:Program)(t:TypeId):Bool:=match P.underlying t with
 | some (.int _)=>true
 | _=>false
def AY(P:Program)(S:List SO)(xt:TypeId)(s:Nat)(z:AV)(y:SV):Option (Nat×List SV):=match jw P xt with
 | .sl=>wx S s y
 | .other=>cond (isInt P xt) ((PN y).bind λn=>r9 (n<=1000000) (some (n,(rep z.cells n).map .a))) none
 | _=>none
def AD(P:Program)(S:List SO)(st xt:TypeId)(x y:SV):Option (SV×List SO×Option Nat):=
 (Lc P st).bind λq=>(dE P q.1).bind λz=>r9 (z.cells.length=q.2/\q.2≠0/\qV P q.1=true)
  ((AY P S xt q.2 z y).bind λp=>if p.1=0 then QW S x else r9 (p.1<=1000000/\p.2.all fw=true) (OK S q.2 x p))
def Dj(isMax:Bool):SV->List SV->Option SV
 | x,[]=>some x
 | .a x,.a y::l=>(uE isMax x y).bind λz=>Dj isMax (.a z) l
 | _,_=>none
def Xg:SV->Option (Nat×Nat×Nat×Nat)
 | .buf o n e _=>some (o,0,n,e)
 | .sub o off n e _=>some (o,off,n,e)
 | _=>none
def Rq(S:List SO)(s o off des:Nat)(rows:List SV)(n:Nat):Option (SV×List SO×Option Nat):=
 if n=0 then some (.a (.int .i64 0),S,none) else match S[o]? with
  | some (.cells cs)=>r9 (des=s/\off+n*s<=cs.length/\n*s<=rows.length/\(rows.take (n*s)).all fw=true)
   (some (.a (.int .i64 (n:Nat)),S.set o (.cells (cs.take off++(rows.take (n*s)++cs.drop (off+n*s)))),none))
  | _=>none
def Nv(P:Program)(S:List SO)(t:TypeId)(x y:SV):Option (SV×List SO×Option Nat):=(Lc P t).bind λq=>(Xg x).bind λ(o,off,dl,des)=>(wx S q.2 y).bind λp=>
 Rq S q.2 o off des p.2 (Nat.min p.1 dl)
def FO(P:Program)(S:List SO)(t:TypeId)(x:SV):Option (SV×List SO×Option Nat):=(Lc P t).bind λq=>(dE P q.1).bind λz=>(Xg x).bind λ(o,off,n,es)=>
 if n=0 then some (.a kJ,S,none) else match S[o]? with
  | some (.cells cs)=>r9 (es=q.2/\z.cells.length=q.2/\off+n*q.2<=cs.length/\(rep z.cells n).all lu=true)
   (some (.a kJ,S.set o (.cells (cs.take off++((rep z.cells n).map .a++cs.drop (off+n*q.2)))),none))
  | _=>none
def K4:SV->Option Nat
 | .a (.slice none 0 0 (some 0))=>some 0
 | .buf _ _ _ (some c)=>some c
 | .sub _ _ _ _ (some c)=>some c
 | .e0 _=>some 0
 | _=>none
def iO(P:Program)(S:List SO)(b:Builtin)(ats:List TypeId)(xs:List SV):Option (SV×List SO×Option Nat):=match b,ats,xs with
 | .append,st::xt::_,[x,y]=>AD P S st xt x y
 | .len,t::_,x::_=>(BW P S t x).map λ(n:Nat)=>((SV.a (.int .i64 (n:Int)),S,none):SV×List SO×Option Nat)
 | .min,_,x::l=>(Dj false x l).map λv=>(v,S,none)
 | .max,_,x::l=>(Dj true x l).map λv=>(v,S,none)
 | .delete,t::_,x::k::_=>(O8 P S t x k).map λS=>(.a kJ,S,none)
 | .copy,dt::_,[x,y]=>Nv P S dt x y
 | .clear,t::_,[x]=>FO P S t x
 | .cap,t::_,[x]=>(Lc P t).bind λ_=>(K4 x).map λ(c:Nat)=>((SV.a (.int .i64 (c:Int)),S,none):SV×List SO×Option Nat)
 | _,_,_=>none
def N0:Option SV->Option SV->Option SV->Option SV
 | some (.a (.bool z)),some x,some y=>some (cond z x y)
 | _,_,_=>none
def BY(P:Program)(S:List SO)(tt:TypeId):SV->Option SV
 | .ptr o off=>match S[o]? with
  | some (.cells cs)=>vY P tt cs off
  | _=>none
 | .ip cs=>vY P tt cs 0
 | _=>none
def GX(P:Program)(S:List SO)(tt:TypeId)(a x:SV):Option (List SO):=match a with
 | .ptr o off=>match S[o]? with
  | some (.cells cs)=>(KC P tt).bind λq=>(db x).bind λvs=>
   r9 (vs.length=q.1/\off+q.1<=cs.length/\vs.all fw=true) (some (S.set o (.cells (cs.take off++(vs++cs.drop (off+q.1))))))
  | _=>none
 | _=>none
def cY(P:Program):SV->Option SV
 | .ptr o off=>some (.ptr o off)
 | .ip cs=>some (.ip cs)
 | .fn g a b=>some (.fn g a b)
 | .sl n e cs=>some (.sl n e cs)
 | .buf o n e c=>some (.buf o n e c)
 | .sub o off n e c=>some (.sub o off n e c)
 | .e0 e=>some (.e0 e)
 | .a (.fn (.method nm) [.iface t v] ys)=>(j7 P t nm).map λ_=>.a (.fn (.method nm) [.iface t v] ys)
 | _=>none
def q7(P:Program)(s:TypeId)(x:SV)(f:Nat):Option SV:=(Lk P s f).bind λq=>r9 (q.2.2≠0) (match x with
 | .ptr o off=>some (.ptr o (off+q.1))
 | .ip cs=>r9 (q.1<=cs.length) (some (.ip (cs.drop q.1)))
 | _=>none)
def Bw(P:Program)(s:TypeId)(x:SV)(f:Nat):Option SV:=match x with
 | .ag cs=>(Lk P s f).bind λq=>vY P q.2.1 cs q.1
 | _=>none
def rh(P:Program)(t:TypeId)(x:SV)(i:SV):Option SV:=(PN i).bind λi=>match VE P t with
 | some q=>r9 (i<q.1) (match x with
  | .ptr o off=>some (.ptr o (off+i*q.2.2))
  | .ip cs=>r9 (i*q.2.2<=cs.length) (some (.ip (cs.drop (i*q.2.2))))
  | _=>none)
 | none=>(Lc P t).bind λq=>match x with
  | .sl n es cs=>r9 (i<n/\q.2=es) (some (.ip ((cs.drop (i*q.2)).take q.2)))
  | .buf o n es _=>r9 (i<n/\q.2=es) (some (.ptr o (i*q.2)))
  | .sub o off n es _=>r9 (i<n/\q.2=es) (some (.ptr o (off+i*q.2)))
  | _=>none
def F0(P:Program)(t:TypeId)(x:SV)(i:SV):Option SV:=(PN i).bind λi=>match x with
 | .ag cs=>(VE P t).bind λq=>r9 (i<q.1) (vY P q.2.1 cs (i*q.2.2))
 | .a (.str s)=>match jw P t with
  | .str=>(s[i]?).map λb=>.a (.int .u8 (ofNat b))
  | _=>none
 | _=>none
def ox(P:Program)(t:TypeId)(x:SV)(lo hi mx:Option AV):Option SV:=match jw P t,x with
 | .str,.a (.str s)=>match mx with
  | some _=>none
  | none=>(c7 s.length (some s.length) lo hi none).map λ(l,hh,_)=>.a (.str ((s.drop l).take (hh-l)))
 | .sl,.sl n es cs=>match mx with
  | some m=>(Lc P t).bind λq=>r9 (lo=none/\hi.bind dx=some 0/\dx m=some 0/\q.2=es) (some (.e0 q.2))
  | none=>(Lc P t).bind λq=>(c7 n none lo hi none).bind λ(l,hh,_)=>r9 (q.2=es) (some (.sl (hh-l) q.2 ((cs.drop (l*q.2)).take ((hh-l)*q.2))))
 | .sl,.buf o n es c=>match mx with
  | some _=>none
  | none=>(Lc P t).bind λq=>(c7 n c lo hi none).bind λ(l,hh,m)=>r9 (q.2=es) (some (match lo with
   | none=>.buf o (hh-l) q.2 (bD m l)
   | some _=>.sub o (l*q.2) (hh-l) q.2 (bD m l)))
 | .sl,.sub o off n es c=>match mx with
  | some _=>none
  | none=>(Lc P t).bind λq=>(c7 n c lo hi none).bind λ(l,hh,m)=>r9 (q.2=es) (some (.sub o (off+l*q.2) (hh-l) q.2 (bD m l)))
 | .sl,.a (.slice none 0 0 (some 0))=>(Lc P t).bind λ_=>(c7 0 (some 0) lo hi mx).map λ_=>.a (.slice none 0 0 (some 0))
 | .sl,.e0 e=>(Lc P t).bind λq=>(c7 0 (some 0) lo hi mx).bind λ(l,hh,m)=>r9 (l=0/\hh=0/\m=some 0/\q.2=e) (some (.e0 e))
 | _,_=>none
def NK(P:Program)(t:TypeId):Bool:=match P.underlying t with
 | some (.interface _)=>false
 | some _=>true
 | none=>false
def dY(P:Program)(f:Fm)(S:List SO)(op:Op):Option (SV×List SO×Option Nat):=match op with
 | .move x=>(fp f x).map λv=>(v,S,none)
 | .assign x=>(fp f x).map λv=>(v,S,none)
 | .pick c a b=>(N0 (fp f c) (fp f a) (fp f b)).map λv=>(v,S,none)
 | .alloc e=>(dE P e).map λz=>(.ptr S.length 0,iX S (.cells (z.cells.map .a)),some S.length)
 | .box _ x=>(fp f x).bind λv=>(db v).map λcs=>(.ptr S.length 0,iX S (.cells cs),some S.length)
 | .build tt ps=>(mV f ps.toList).bind λl=>(FL P tt l).map λv=>(v,S,none)
 | .buildSlice tt n ps=>(mV f ps.toList).bind λl=>(oN P tt n l).map λq=>(.buf S.length n q.1 (some n),iX S (.cells q.2),some S.length)
 | .makeMap _ none=>some (.map S.length,iX S (.map [] [] none),some S.length)
 | .makeSlice tt l c=>match fp f l,fp f c with
  | some (.a l),some (.a c)=>(iV P tt l c).map λq=>(.buf S.length q.1 q.2.1 (some q.2.2.1),iX S (.cells (q.2.2.2.map .a)),some S.length)
  | _,_=>none
 | .load tt a=>(fp f a).bind λa=>(BY P S tt a).map λv=>(v,S,none)
 | .store tt a x=>(fp f a).bind λa=>(fp f x).bind λx=>(GX P S tt a x).map λS=>(.a kJ,S,none)
 | .nilCheck x=>(fp f x).bind λx=>(cY P x).map λv=>(v,S,none)
 | .binOp op t x y _=>(fp f x).bind λx=>(fp f y).bind λy=>(cU x).bind λx=>(cU y).bind λy=>(cW P op t x y).map λv=>(.a v,S,none)
 | .unOp op _ x=>(fp f x).bind λx=>(cU x).bind λx=>(W5 op x).map λv=>(.a v,S,none)
 | .convert s d x=>(fp f x).bind λx=>(cU x).bind λx=>(mu P s d x).map λv=>(.a v,S,none)
 | .makeInterface t x=>cond (NK P t) ((fp f x).map λv=>(.iface t v,S,none)) none
 | .makeFunc (.func g) first cap=>(pM f first.toList).bind λa=>(pM f cap.toList).map λb=>(.fn g a b,S,none)
 | .slice tt x lo hi mx=>(fp f x).bind λx=>(Ap f lo).bind λlo=>(Ap f hi).bind λhi=>(Ap f mx).bind λmx=>(ox P tt x lo hi mx).map λv=>(v,S,none)
 | .fieldAddr s x fl=>(fp f x).bind λx=>(q7 P s x fl).map λv=>(v,S,none)
 | .field s x fl=>(fp f x).bind λx=>(Bw P s x fl).map λv=>(v,S,none)
 | .indexAddr t x i=>(fp f x).bind λx=>(fp f i).bind λi=>(rh P t x i).map λv=>(v,S,none)
 | .index t x i=>(fp f x).bind λx=>(fp f i).bind λi=>(F0 P t x i).map λv=>(v,S,none)
 | .lookup t x k ok=>(fp f x).bind λx=>(fp f k).bind λk=>(eJ P S t x k ok).map λv=>(v,S,none)
 | .mapUpdate t m k x=>(fp f m).bind λm=>(fp f k).bind λk=>(fp f x).bind λx=>(gn P S t m k x).map λS=>(.a kJ,S,none)
 | .insert t m k x=>(fp f m).bind λm=>(fp f k).bind λk=>(fp f x).bind λx=>(gn P S t m k x).map λS=>(.a kJ,S,none)
 | .extract x i=>match fp f x with
  | some (.bB vs)=>(vs[i]?).map λv=>(v,S,none)
  | _=>none
 | .call { callee:=.builtin b,args:=aS,argTypes:=ats }=>(pM f aS.toList).bind λxs=>iO P S b ats.toList xs
 | .makeFunc (.method nm) first cap=>(pM f first.toList).bind λa=>(jM a).bind λa=>(pM f cap.toList).bind λb=>(jM b).map λb=>(.a (.fn (.method nm) a b),S,none)
 | _=>none
def kZ(k:Option Nat)(v:SV):SV:=match k with
 | none=>v
 | some o=>aW o v
def lT(f:Fm)(kill:Option Nat):Fm:=match kill with
 | none=>f
 | some o=>eg o f
def uw(f:Fm)(kill:Option Nat)(dst:Option Tmp)(v:SV):Fm:=match dst with
 | none=>lT f kill
 | some d=>(d,v)::lT f kill
section
variable {θ:Nat->Loc} {ρ:lD} {P:Program}
theorem df.a:∀(aS:List AV),df θ ρ (aS.map .a) aS
 | []=>by rw[cj,aU]
 | a::aS=>by rw[bt,aG];exact⟨a,aS,rfl,by rw[VS],df.a aS⟩
def CD(v:AV):VS θ ρ (C5 v) v:=by
 unfold C5;split
 ·rw[VS];exact⟨_,rfl,df.a _⟩
 ·rw[VS]
variable{x:Operand}
def bE{f:Fm}{af:Nat->AV}{n:Nat}{wv:Nat->AV}(hF:FR θ ρ (aP f) af n wv){v:SV}(h:fp f x=some v):∃a,ev (dy af n) x=some a/\VS θ ρ v a:=by
 cases x with
 | tmp i=>
  simp only[fp] at h
  have hlim:i<1000000:=by
   apply Decidable.byContradiction;intro hn;rw[ul hn] at h;cases h
  rw[t8 hlim] at h;cases h;have:=hF.v i;by_cases hi:i<n
  ·rw[t8 hi] at this;exact⟨_,Wv hi,this⟩
  ·rw[ul hi,hF.u i hlim] at this
   exact⟨kJ,by
    have:(dy af n).get i=none:=CG af n i (Nat.le_of_not_lt hi)
    simp only[ev,this],this⟩
 | const c=>
  simp only[fp] at h;obtain⟨a,ha,rfl⟩:=aq h;exact⟨a,ha,CD a⟩
 | func g=>
  simp only[fp,n8] at h;subst h;exact⟨_,Ur,by rw[VS];exact⟨[],[],rfl,by rw[aU],by rw[aU]⟩⟩
 | global g=>simp[fp] at h
def mg{f:Fm}{af:Nat->AV}{n:Nat}{wv:Nat->AV}(hF:FR θ ρ (aP f) af n wv):∀{l:List Operand} {vs:List SV},pM f l=some vs->∃aS,Aj (dy af n) l=some aS/\df θ ρ vs aS
 | [],vs,h=>by
  simp only[pM,n8] at h;subst h;exact⟨[],rfl,by rw[aU]⟩
 | x::l,vs,h=>by
  rw[pM] at h;obtain⟨v,hv,h⟩:=t6 h;obtain⟨ws,hw,rfl⟩:=aq h;obtain⟨a,ha,ka⟩:=bE hF hv;obtain⟨aS,hs,ks⟩:=mg hF hw;exact⟨a::aS,by rw[RC,ha,hs];rfl,by rw[aG];exact⟨a,aS,rfl,ka,ks⟩⟩
def Xv(θ:Nat->Loc)(ρ:lD):List (Nat×SV)->List (Nat×AV)->Prop
 | [],aS=>aS=[]
 | (i,v)::l,aS=>∃a r,aS=(i,a)::r/\VS θ ρ v a/\Xv θ ρ l r
def yj{f:Fm}{af:Nat->AV}{n:Nat}{wv:Nat->AV}(hF:FR θ ρ (aP f) af n wv):∀{l:List (Nat×Operand)} {vs:List (Nat×SV)},mV f l=some vs->∃aS,mU (dy af n) l=some aS/\Xv θ ρ vs aS
 | [],vs,h=>by
  simp only[mV,n8] at h;subst h;exact⟨[],rfl,rfl⟩
 | (i,x)::l,vs,h=>by
  rw[mV] at h;obtain⟨v,hv,h⟩:=t6 h;obtain⟨ws,hw,rfl⟩:=aq h;obtain⟨a,ha,ka⟩:=bE hF hv;obtain⟨aS,hs,ks⟩:=yj hF hw;exact⟨(i,a)::aS,by rw[Jp,ha,hs];rfl,a,aS,rfl,ka,ks⟩
def GP{f:Fm}{af:Nat->AV}{n:Nat}{wv:Nat->AV}(hF:FR θ ρ (aP f) af n wv){o:Option Operand}{v:Option AV}(h:Ap f o=some v):RB (dy af n) o=some v:=by
 cases o with
 | none=>simp only[Ap,n8] at h;subst h;rfl
 | some x=>
  simp only[Ap] at h;split at h
  ·rename_i w hw;cases h;obtain⟨a,ha,ka⟩:=bE hF hw;rw[VS] at ka;subst ka;simp only[RB,ha,m6]
  ·cases h
def cells_one{v:AV}(h:∀cs,v≠.agg cs):v.cells=[v]:=by
 cases v<;>first | rfl | exact t7 rfl (h _)
def xw{v:SV}{x:AV}(hv:VS θ ρ v x){cs:List SV}(h:db v=some cs):df θ ρ cs x.cells:=by
 have one:∀{w:SV},VS θ ρ w x->(∀cs,x≠.agg cs)->df θ ρ [w] x.cells:=by
  intro w hw hx;rw[cells_one hx,aG];exact⟨x,[],rfl,hw,by rw[aU]⟩
 cases v with
 | any=>simp[db] at h
 | a v=>
  have hv':=hv;rw[VS] at hv;subst hv
  cases x with
  | agg cs'=>simp only[db,n8] at h;subst h;exact df.a _
  | _=>simp only[db,n8] at h;subst h;exact one hv' (λ_ h=>by cases h)
 | ag cs'=>
  simp only[db,n8] at h;subst h;rw[VS] at hv;obtain⟨aS,rfl,h2⟩:=hv;exact h2
 | sl n e cs'=>
  simp only[db,n8] at h;subst h;refine one hv ?_;rw[VS,GS] at hv
  rcases hv with⟨_,_,o,e',c,rfl,_,_⟩ | ⟨id,off,cap,row,rfl,_⟩<;>exact λ_ h=>by cases h
 | im ks vs=>
  simp only[db,n8] at h;subst h;refine one hv ?_;rw[VS,GS] at hv;obtain⟨id,l,c,rfl,_⟩:=hv
  exact λ_ h=>by cases h
 | ip cs'=>
  simp only[db,n8] at h;subst h;refine one hv ?_;rw[VS,GS] at hv;obtain⟨id,off,row,r,rfl,_⟩:=hv
  exact λ_ h=>by cases h
 | ptr o off=>
  simp only[db,n8] at h;subst h;refine one hv ?_
  rw[VS] at hv;subst hv;exact λ_ h=>by cases h
 | map o=>
  simp only[db,n8] at h;subst h;refine one hv ?_
  rw[VS] at hv;subst hv;exact λ_ h=>by cases h
 | buf o n e c=>
  simp only[db,n8] at h;subst h;refine one hv ?_
  rw[VS] at hv;subst hv;exact λ_ h=>by cases h
 | sub o off n e c=>
  simp only[db,n8] at h;subst h;refine one hv ?_
  rw[VS] at hv;subst hv;exact λ_ h=>by cases h
 | e0 e=>
  simp only[db,n8] at h;subst h;refine one hv ?_
  rw[VS] at hv;obtain⟨o,e',rfl,_⟩:=hv;exact λ_ h=>by cases h
 | bB vs=>
  simp only[db,n8] at h;subst h;refine one hv ?_
  rw[VS] at hv;obtain⟨aS,rfl,_⟩:=hv;exact λ_ h=>by cases h
 | fn g a b=>
  simp only[db,n8] at h;subst h;refine one hv ?_
  rw[VS] at hv;obtain⟨aS,bs,rfl,_⟩:=hv;exact λ_ h=>by cases h
 | iface t v=>
  simp only[db,n8] at h;subst h;refine one hv ?_
  rw[VS] at hv;obtain⟨y,rfl,_⟩:=hv;exact λ_ h=>by cases h
def U1{v:SV}{x:AV}(hv:VS θ ρ v x)(h:fw v=true):lu x=true:=by
 cases v with
 | any=>simp[fw] at h
 | a v=>rw[VS] at hv;subst hv;exact h
 | ag cs=>simp[fw] at h
 | bB cs=>simp[fw] at h
 | sl n e cs=>rw[VS,GS] at hv;rcases hv with⟨_,_,o,e',c,rfl,_,_⟩ | ⟨id,off,cap,row,rfl,_⟩<;>rfl
 | im ks vs=>rw[VS,GS] at hv;obtain⟨id,l,c,rfl,_⟩:=hv;rfl
 | ip cs=>rw[VS,GS] at hv;obtain⟨id,off,row,r,rfl,_⟩:=hv;rfl
 | ptr o off=>rw[VS] at hv;subst hv;rfl
 | map o=>rw[VS] at hv;subst hv;rfl
 | buf o n e c=>rw[VS] at hv;subst hv;rfl
 | sub o off n e c=>rw[VS] at hv;subst hv;rfl
 | e0 e=>rw[VS] at hv;obtain⟨o,e',rfl,_⟩:=hv;rfl
 | fn g a b=>rw[VS] at hv;obtain⟨aS,bs,rfl,_⟩:=hv;rfl
 | iface t v=>rw[VS] at hv;obtain⟨y,rfl,_⟩:=hv;rfl
def nE:∀{vs:List SV} {xs:List AV},df θ ρ vs xs->vs.all fw=true->xs.all lu=true
 | [],xs,hv,_=>by rw[aU] at hv;subst hv;rfl
 | d::ds,xs,hv,h=>by
  rw[aG] at hv;obtain⟨a,r,rfl,h1,h2⟩:=hv;rw[List.all_cons,b6] at h ⊢;exact⟨U1 h1 h.1,nE h2 h.2⟩
def cy{p:Prop}[Decidable p]{x:Option α}{y:α}(h:r9 p x=some y):p/\x=some y:=by
 unfold r9 at h;split at h
 ·rename_i hp;exact⟨hp,h⟩
 ·cases h
def wV{q:Nat×Bool}(h:KC P t=some q):sy P t=some q.2/\cJ P t=some q.1:=by
 unfold KC at h;obtain⟨b,hb,h⟩:=t6 h;obtain⟨n,hn,rfl⟩:=aq h;exact⟨hb,hn⟩
def xL{s:TypeId}{f:Nat}{q:Nat×TypeId×Nat}(h:Lk P s f=some q):∃fs fd,P.underlying s=some (.struct fs)/\fs.toList.all (λf=>(cJ P f.type).isSome)=true/\fs[f]?=some fd/\cJ P fd.type=some q.2.2/\fd.offset=q.1/\fd.type=q.2.1:=by
 unfold Lk at h;split at h
 ·rename_i fs hu;obtain⟨hb,h⟩:=aI h;obtain⟨fd,hfd,h⟩:=t6 h;obtain⟨n,hn,rfl⟩:=aq h;exact⟨fs,fd,hu,hb,hfd,hn,rfl,rfl⟩
 ·cases h
def ib{q:TypeId×Nat}(h:Lc P t=some q):P.underlying t=some (.slice q.1)/\cJ P q.1=some q.2:=by
 unfold Lc at h;split at h
 ·rename_i e hu;obtain⟨n,hn,rfl⟩:=aq h;exact⟨hu,hn⟩
 ·cases h
def HV{q:Nat×TypeId×Nat}(h:VE P t=some q):P.underlying t=some (.array q.1 q.2.1)/\cJ P q.2.1=some q.2.2:=by
 unfold VE at h;split at h
 ·rename_i n e hu;obtain⟨s,hs,rfl⟩:=aq h;exact⟨hu,hs⟩
 ·cases h
def BU(h:jw P t=.str):P.underlying t=some .string:=by
 unfold jw at h
 split at h<;>first | assumption | cases h
def rk(h:jw P t=.sl):∃e,P.underlying t=some (.slice e):=by
 unfold jw at h
 split at h<;>first | exact⟨_,by assumption⟩ | cases h
def R0(h:jw P t=.map):∃k e,P.underlying t=some (.map k e):=by
 unfold jw at h
 split at h<;>first | exact⟨_,_,by assumption⟩ | cases h
variable{off:Nat}
def vZ{cs:List SV}(hv:df θ ρ cs aS){v:SV}(h:vY P t cs off=some v):∃a,fV P t aS off=some a/\VS θ ρ v a:=by
 unfold vY at h;obtain⟨q,hq,h⟩:=t6 h;obtain⟨h1,h2⟩:=wV hq;obtain⟨n,b⟩:=q;unfold fV;simp only at h1 h2 h;rw[h1];cases b
 ·exact hv.get h
 ·simp only at h ⊢;obtain⟨hle,h⟩:=cy h;cases h;rw[h2,m7,hv.length,fH hle,ah];exact⟨_,rfl,by rw[VS];exact⟨_,rfl,(hv.drop off).take n⟩⟩
def Es(hr:tS h.aV id=some aS)(t:TypeId)(off:Nat):h.load P t id off=fV P t aS off:=by
 unfold H.load fV H.chunk;unfold tS at hr
 cases ho:h.aV.get id with
 | none=>rw[ho] at hr;cases hr
 | some ob=>
  rw[ho] at hr
  cases ob with
  | cells cs bX=>
   have hr:some cs=some aS:=hr;cases hr
   cases sy P t with
   | none=>rfl
   | some b=>
    cases b
    ·rfl
    ·simp only
     cases cJ P t with
     | none=>rfl
     | some n=>simp only[m7];cases ble (off+n) aS.length<;>rfl
  | ro cs=>
   have hr:some cs=some aS:=hr;cases hr
   cases sy P t with
   | none=>rfl
   | some b=>
    cases b
    ·rfl
    ·simp only
     cases cJ P t with
     | none=>rfl
     | some n=>simp only[m7];cases ble (off+n) aS.length<;>rfl
  | _=>cases hr
def P0{row:List AV}{r k:Nat}(hl:off+r<=row.length){v:AV}(h:fV P t ((row.drop off).take r) k=some v):fV P t row (off+k)=some v:=by
 unfold fV at h ⊢;split at h
 ·obtain⟨n,hn,h⟩:=t6 h;obtain⟨hb,h⟩:=aI h;cases h;have hb:=md hb;rw[List.length_take,List.length_drop] at hb;rw[hn,m7,fH (show off+k+n<=row.length by omega),ah,List.drop_take,List.take_take,fy,Nat.min_eq_left gt]
 ·rw[List.getElem?_take] at h;split at h
  ·rw[List.getElem?_drop] at h;exact h
  ·cases h
 ·cases h
def vt{place:Nat->Option (Nat×Nat)}:∀{parts:List (Nat×SV)} {ps:List (Nat×AV)} {cells:List SV} {aS:List AV} {out:List SV},Xv θ ρ parts ps->df θ ρ cells aS->vr place cells parts=some out->∃o,lH place aS ps=some o/\df θ ρ out o
 | [],ps,cells,aS,out,hp,hc,h=>by
  have hp:ps=[]:=hp;subst hp;simp only[vr,n8] at h;subst h;exact⟨aS,rfl,hc⟩
 | (i,v)::l,ps,cells,aS,out,hp,hc,h=>by
  obtain⟨a,r,rfl,h1,h2⟩:=hp;simp only[vr] at h;simp only[lH];split at h
  ·cases h
  ·rename_i off size hpl;rw[hpl];simp only;obtain⟨cs,hcs,h⟩:=t6 h;obtain⟨⟨hb1,hb2⟩,h⟩:=cy h;have k:=xw h1 hcs;subst hb1;rw[k.length,hc.length,f8,fH hb2,f6,ah];exact vt h2 ((hc.take off).app (k.app (hc.drop _))) h
def yF{p q:Nat->Option (Nat×Nat)}(hpq:∀i,(p i).isSome=true->q i=p i):∀{ps:List (Nat×AV)} {aS o:List AV},lH p aS ps=some o->lH q aS ps=some o
 | [],aS,o,h=>h
 | (i,v)::l,aS,o,h=>by
  simp only[lH] at h ⊢
  cases hp:p i with
  | none=>rw[hp] at h;cases h
  | some x=>
   obtain⟨off,size⟩:=x;rw[hpq i (by rw[hp];rfl),hp];rw[hp] at h;simp only at h ⊢;obtain⟨hb,h⟩:=aI h;rw[hb,ah];exact yF hpq h
def OP{parts:List (Nat×SV)}{ps:List (Nat×AV)}(hp:Xv θ ρ parts ps){v:SV}(h:FL P t parts=some v):∃a,xv P t ps=some a/\VS θ ρ v a:=by
 unfold FL at h;unfold xv;obtain⟨z,hz,h⟩:=t6 h;obtain⟨q,hq,h⟩:=t6 h;rw[hz,m7];unfold Ua at hq;split at hq
 ·rename_i fs hu;obtain⟨hb,hq⟩:=aI hq;cases hq;simp only at h;obtain⟨o,ho,rfl⟩:=aq h;obtain⟨w,hw,kw⟩:=vt hp (df.a z.cells) ho
  have hw:=yF (q:=yd P fs) (λi hi=>by
   cases hf:Lk P t i with
   | none=>rw[hf] at hi;cases hi
   | some q=>
    obtain⟨fs',fd,e1,_,e3,e4,e5,_⟩:=xL hf;rw[hu] at e1;cases e1;unfold yd
    rw[e3,m7,e4,m6,e5];rfl) hw
  rw[hu];simp only;rw[hb,ah,hw];exact⟨_,rfl,by rw[VS];exact⟨_,rfl,kw⟩⟩
 ·rename_i n e hu;obtain⟨s,hs,rfl⟩:=aq hq;simp only at h;obtain⟨o,ho,rfl⟩:=aq h;obtain⟨w,hw,kw⟩:=vt hp (df.a z.cells) ho;rw[hu];simp only;rw[hs,m7,hw];exact⟨_,rfl,by rw[VS];exact⟨_,rfl,kw⟩⟩
 ·cases hq
def Bh{len:Nat}{parts:List (Nat×SV)}{ps:List (Nat×AV)}(hp:Xv θ ρ parts ps){q:Nat×List SV}(h:oN P t len parts=some q):∃cs,iN P t len ps=some (q.1,cs)/\df θ ρ q.2 cs:=by
 unfold oN at h;unfold iN;obtain⟨el,hel,h⟩:=t6 h;obtain⟨z,hz,h⟩:=t6 h;obtain⟨⟨b1,b2,b3⟩,h⟩:=cy h;obtain⟨o,ho,rfl⟩:=aq h;obtain⟨hu,hs⟩:=ib hel;obtain⟨w,hw,kw⟩:=vt hp (df.a (rep z.cells len)) ho
 have hb0:beq el.2 0=false:=by
  cases hb:beq el.2 0
  ·rfl
  ·exact t7 (cZ hb) b3
 rw[hu];simp only;rw[hs,m7,hz,m7,fH b1,b2,f8,hb0];simp only[Bool.not_false,f6,ah];rw[hw];exact⟨w,rfl,kw⟩
mutual
def iS:∀{v:SV} {x a:AV},VS θ ρ v x->cU v=some a->x=a
 | .a v,x,a,hv,h=>by rw[VS] at hv;rw[cU] at h;cases h;exact hv
 | .ag cs,x,a,hv,h=>by
  rw[VS] at hv;rw[cU] at h;obtain⟨aS,rfl,h2⟩:=hv;obtain⟨bs,hb,rfl⟩:=aq h;rw[p9 h2 hb]
 | .any,_,_,_,h=>by simp[cU] at h
 | .sl _ _ _,_,_,_,h=>by simp[cU] at h
 | .im _ _,_,_,_,h=>by simp[cU] at h
 | .ip _,_,_,_,h=>by simp[cU] at h
 | .ptr _ _,_,_,_,h=>by simp[cU] at h
 | .map _,_,_,_,h=>by simp[cU] at h
 | .buf _ _ _ _,_,_,_,h=>by simp[cU] at h
 | .sub _ _ _ _ _,_,_,_,h=>by simp[cU] at h
 | .e0 _,_,_,_,h=>by simp[cU] at h
 | .bB _,_,_,_,h=>by simp[cU] at h
 | .fn _ _ _,_,_,_,h=>by simp[cU] at h
 | .iface t v,x,a,hv,h=>by
  rw[VS] at hv;rw[cU] at h;obtain⟨y,rfl,h2⟩:=hv;obtain⟨b,hb,rfl⟩:=aq h;rw[iS h2 hb]
def p9:∀{vs:List SV} {xs aS:List AV},df θ ρ vs xs->jM vs=some aS->xs=aS
 | [],xs,aS,hv,h=>by rw[aU] at hv;rw[jM] at h;cases h;exact hv
 | d::ds,xs,aS,hv,h=>by
  rw[aG] at hv;rw[jM] at h;obtain⟨a,r,rfl,h1,h2⟩:=hv;obtain⟨b,hb,h⟩:=t6 h;obtain⟨bs,hbs,rfl⟩:=aq h;rw[iS h1 hb,p9 h2 hbs]
end
def p6{kt:TypeId}{k:AV}:∀(l:List (AV×AV×Nat)) (i:Nat),iR P kt k l i=sj P kt k (l.map (·.1)) i
 | [],_=>rfl
 | e::l,i=>by
  rw[bt];unfold iR sj
  cases mL P 4 kt k e.1 with
  | none=>rfl
  | some b=>
   cases b
   ·exact p6 l (i+1)
   ·rfl
def Gh{b:Bool}:∀{l:List SV} {x:SV} {xa:AV} {aS:List AV} {v:SV},VS θ ρ x xa->df θ ρ l aS->Dj b x l=some v->∃a,oS b xa aS=some a/\VS θ ρ v a
 | [],x,xa,aS,v,hx,hl,h=>by
  rw[aU] at hl;subst hl
  have:v=x:=by
   cases x<;>simp only[Dj,n8] at h<;>exact h.symm
  subst this;exact⟨xa,rfl,hx⟩
 | y::l,x,xa,aS,v,hx,hl,h=>by
  rw[aG] at hl;obtain⟨ya,r,rfl,h1,h2⟩:=hl
  cases x with
  | a x=>
   cases y with
   | a y=>
    rw[VS] at hx h1;subst hx;subst h1;simp only[Dj] at h;obtain⟨z,hz,h⟩:=t6 h;obtain⟨w,hw,kw⟩:=Gh (x:=.a z) (xa:=z) (by rw[VS]) h2 h;exact⟨w,by simp only[oS,hz,m7];exact hw,kw⟩
   | _=>simp[Dj] at h
  | _=>simp[Dj] at h
end
section
variable {θ θ':Nat->Loc} {ρ ρ0:lD} {P:Program}
mutual
def VS.ids(hθ:∀p,(θ' p).id=(θ p).id):∀{v:SV} {x:AV},VS θ ρ v x->VS θ' ρ v x
 | .any,_,_=>by rw[VS];trivial
 | .a v,x,h=>by rw[VS] at h ⊢;exact h
 | .sl n e cs,x,h=>by rw[VS] at h ⊢;exact h
 | .im ks vs,x,h=>by rw[VS] at h ⊢;exact h
 | .ip cs,x,h=>by rw[VS] at h ⊢;exact h
 | .ptr p _,_,h=>by rw[VS] at h ⊢;rw[hθ p];exact h
 | .map p,_,h=>by rw[VS] at h ⊢;rw[hθ p];exact h
 | .buf p _ _ _,_,h=>by rw[VS] at h ⊢;rw[hθ p];exact h
 | .sub p _ _ _ _,_,h=>by rw[VS] at h ⊢;rw[hθ p];exact h
 | .e0 e,x,h=>by rw[VS] at h ⊢;exact h
 | .ag cs,x,h=>by rw[VS] at h ⊢;obtain⟨aS,h1,h2⟩:=h;exact⟨aS,h1,df.ids hθ h2⟩
 | .bB cs,x,h=>by rw[VS] at h ⊢;obtain⟨aS,h1,h2⟩:=h;exact⟨aS,h1,df.ids hθ h2⟩
 | .fn g f c,x,h=>by rw[VS] at h ⊢;obtain⟨xs,ys,h1,h2,h3⟩:=h;exact⟨xs,ys,h1,df.ids hθ h2,df.ids hθ h3⟩
 | .iface t v,x,h=>by rw[VS] at h ⊢;obtain⟨y,h1,h2⟩:=h;exact⟨y,h1,VS.ids hθ h2⟩
def df.ids(hθ:∀p,(θ' p).id=(θ p).id):∀{ds:List SV} {aS:List AV},df θ ρ ds aS->df θ' ρ ds aS
 | [],aS,h=>by rw[aU] at h ⊢;exact h
 | d::ds,aS,h=>by
  rw[aG] at h ⊢;obtain⟨a,r,h1,h2,h3⟩:=h;exact⟨a,r,h1,VS.ids hθ h2,df.ids hθ h3⟩
end
def jO{o:Nat}(hθ:∀p,p≠o->θ' p=θ p){v:SV}{x:AV}(h:VS θ ρ v x):VS θ' ρ (aW o v) x:=by
 unfold aW;cases hn:names o v
 ·exact h.wJ hθ hn
 ·rw[ah,VS];trivial
def df.map{g:SV->SV}(hg:∀v x,VS θ ρ v x->VS θ' ρ (g v) x):∀{ds:List SV} {aS:List AV},df θ ρ ds aS->df θ' ρ (ds.map g) aS
 | [],aS,h=>by rw[aU] at h;rw[cj,aU];exact h
 | d::ds,aS,h=>by
  rw[aG] at h;rw[bt,aG];obtain⟨a,r,h1,h2,h3⟩:=h;exact⟨a,r,h1,hg _ _ h2,df.map hg h3⟩
def jl(o:Nat):∀(f:Fm) (i:Nat),aP (eg o f) i=aW o (aP f i)
 | [],i=>rfl
 | (d,v)::f,i=>by
  show(if d=i then aW o v else aP (eg o f) i)=aW o (if d=i then v else aP f i);rw[jl o f i];by_cases h:d=i
  ·rw[t8 h,t8 h]
  ·rw[ul h,ul h]
def uD(g:SV->SV):SO->SO
 | .cells cs=>.cells (cs.map g)
 | .map ks vs b=>.map ks (vs.map g) b
 | .iter m bs c pos=>.iter (g m) bs c pos
 | .qj ks vs bs c pos=>.qj ks vs bs c pos
 | .gone=>.gone
 | .loop c ls p f=>.loop c ls p (f.map λq=>(q.1,g q.2))
 | .pT N=>.pT N
def D1(g:SV->SV):∀(f:Fm) (i:Nat),aP (f.map λq=>(q.1,g q.2)) i=g (aP f i)\/aP (f.map λq=>(q.1,g q.2)) i=.any
 | [],i=>.inr rfl
 | (d,v)::f,i=>by
  show(if d=i then g v else aP (f.map λq=>(q.1,g q.2)) i)=g (if d=i then v else aP f i)\/(if d=i then g v else aP (f.map λq=>(q.1,g q.2)) i)=.any;by_cases h:d=i
  ·rw[t8 h,t8 h];exact .inl rfl
  ·rw[ul h,ul h];exact D1 g f i
def RZ(o:Nat):cx o=uD (aW o):=by funext so;cases so<;>rfl
def vO(so:SO):uD (λv=>v) so=so:=by cases so<;>simp[uD]
def Ey{g:SV->SV}{so:SO}(h:uD g so≠.gone):so≠.gone:=by intro e;subst e;exact h rfl
def oG.map{g:SV->SV}(hg:∀v x,VS θ ρ v x->VS θ' ρ (g v) x){h h':H}{L:Loc}{so:SO}(hx:oG θ ρ h L so)(ho:h'.aV.get L.id=h.aV.get L.id)(hf:h'.dN.get L.bX=h.dN.get L.bX):oG θ' ρ h' L (uD g so):=by
 cases so with
 | cells cs=>obtain⟨aS,h1,h2,h3⟩:=hx;exact⟨aS,by rw[ho];exact h1,h2.map hg,by rw[hf];exact h3⟩
 | map ks vs b=>obtain⟨l,c,h1,h2,h3⟩:=hx;exact⟨l,c,by rw[ho];exact h1,h2,h3.map hg⟩
 | iter m bs c pos=>obtain⟨lE,h1,h2⟩:=hx;exact⟨lE,hg _ _ h1,by rw[ho];exact h2⟩
 | qj ks vs bs c pos=>obtain⟨lE,l,h1,h2,h3,h4⟩:=hx;exact⟨lE,l,h1,h2,h3,by rw[ho];exact h4⟩
 | gone=>trivial
 | loop c ls p f=>
  obtain⟨h1,h2,h3⟩:=hx;refine⟨h1,by rw[ho];exact h2,λi hi=>?_⟩
  rcases D1 g f i with e | e
  ·rw[e];exact hg _ _ (h3 i hi)
  ·rw[e,VS];trivial
 | pT N=>exact⟨hx.1,by rw[ho];exact hx.2⟩
def xg.symm{L M:Loc}(h:xg L M):xg M L:=⟨h.xx.symm,h.yx.symm,h.xy.symm,h.yy.symm,h.f.symm⟩
def HL.mono{b:En}{n m:Nat}{L:Loc}(h:HL b n L)(hn:n<=m):HL b m L:=⟨h.e,⟨h.x.1,by have:=h.x.2;omega⟩,⟨h.y.1,by have:=h.y.2;omega⟩,⟨h.f.1,by have:=h.f.2;omega⟩⟩
def iH(θ:Nat->Loc)(o:Nat)(L:Loc):Nat->Loc:=λp=>if p=o then L else θ p
def cF(θ:Nat->Loc)(o:Nat)(L:Loc):iH θ o L o=L:=t8 rfl
def bT(θ:Nat->Loc){o p:Nat}(L:Loc)(h:p≠o):iH θ o L p=θ p:=ul h
variable{S:List SO}
def RS.C6{h0:En}{S':List SO}{o:Nat}{so':SO}{L':Loc}{g:SV->SV}(hR:RS θ ρ0 ρ h0 h S)(hnx:h.next<=h'.next)(hob0:∀j,h0.pr j->h'.aV.get j=h.aV.get j)(hfm0:∀j,h0.pf j->h'.dN.get j=h.dN.get j)(hlw:h0.lo<=h'.low)(hln:h'.low<=h'.next)(hL:HL h0 h'.next L')
 (hg:∀v x,VS θ ρ v x->VS (iH θ o L') ρ (g v) x)
 (hob:∀p so,p≠o->S[p]?=some so->so≠.gone->h'.aV.get (θ p).id=h.aV.get (θ p).id/\h'.dN.get (θ p).bX=h.dN.get (θ p).bX/\xg (θ p) L')
 (hrow:∀id ob,ρ id=some ob->h'.aV.get id=h.aV.get id/\id≠L'.x/\id≠L'.y)
 (hnew:oG (iH θ o L') ρ h' L' so') (hS:∀p,p≠o->S'[p]?=(S[p]?).map (uD g)) (hSo:S'[o]?=some so'):RS (iH θ o L') ρ0 ρ h0 h' S':=by
 have other:∀p so,p≠o->S'[p]?=some so->so≠.gone->∃s,S[p]?=some s/\s≠.gone/\so=uD g s:=by
  intro p so hp h1 h2;rw[hS p hp] at h1;obtain⟨s,hs,rfl⟩:=aq h1;exact⟨s,hs,Ey h2,rfl⟩
 refine⟨hR.ok,bv hR.nx hnx,λj hj=>(hob0 j hj).trans (hR.ob j hj),λj hj=>(hfm0 j hj).trans (hR.fm j hj),hlw,hln,?_,?_,?_,hR.nO⟩
 ·intro p so h1 h2;by_cases hp:p=o
  ·subst hp;rw[hSo] at h1;cases h1;rw[cF];exact⟨hL,hnew⟩
  ·obtain⟨s,hs,hsg,rfl⟩:=other p so hp h1 h2;rw[bT _ _ hp];obtain⟨k1,k2⟩:=hR.obj p s hs hsg;obtain⟨q1,q2,_⟩:=hob p s hp hs hsg;exact⟨k1.mono hnx,k2.map hg q1 q2⟩
 ·intro p q so so' hpq h1 h2 h3 h4;by_cases hp:p=o
  ·subst hp;obtain⟨s,hs,hsg,rfl⟩:=other q so' (λe=>hpq e.symm) h3 h4;rw[cF,bT _ _ (λe=>hpq e.symm)];exact(hob q s (λe=>hpq e.symm) hs hsg).2.2.symm
  ·obtain⟨s,hs,hsg,rfl⟩:=other p so hp h1 h2;rw[bT _ _ hp];by_cases hq:q=o
   ·subst hq;rw[cF];exact(hob p s hp hs hsg).2.2
   ·obtain⟨s',hs',hsg',rfl⟩:=other q so' hq h3 h4;rw[bT _ _ hq];exact hR.sep p q s s' hpq hs hsg hs' hsg'
 ·intro id ob hi;obtain⟨k1,k2,k3⟩:=hR.row id ob hi;obtain⟨q1,q2,q3⟩:=hrow id ob hi;refine⟨bk k1 hnx,by rw[q1];exact k2,?_⟩;intro p so h1 h2;by_cases hp:p=o
  ·subst hp;rw[cF];exact⟨q2,q3⟩
  ·obtain⟨s,hs,hsg,rfl⟩:=other p so hp h1 h2;rw[bT _ _ hp];exact k3 p s hs hsg
def aR{l:List α}{i:Nat}{x:α}(h:l[i]?=some x):i<l.length:=(pp h).1
def tj(o:Nat)(S:List SO)(p:Nat):(eC o S)[p]?=(S[p]?).map (uD (aW o)):=by
 unfold eC;rw[RZ,bh]
def RS.new{h0:En}{so:SO}{ob:AO}(hR:RS θ ρ0 ρ h0 h S)(hob:(∃cs aS,so=.cells cs/\ob=.cells aS h.next/\df θ ρ cs aS)\/(so=.map [] [] none/\ob=.map [] 0)):
 RS (iH θ S.length ⟨h.next,h.next,h.next,h.next⟩) ρ0 ρ h0 { h.lay h.next ob with next:=h.next+1 } (iX S so)/\∀v x,VS θ ρ v x->VS (iH θ S.length ⟨h.next,h.next,h.next,h.next⟩) ρ (aW S.length v) x:=by
 have hg:∀v x,VS θ ρ v x->VS (iH θ S.length ⟨h.next,h.next,h.next,h.next⟩) ρ (aW S.length v) x:=λv x hv=>jO (λp hp=>bT _ _ hp) hv;refine⟨?_,hg⟩;have hb:=hR.nx;have hpr:∀j,h0.pr j->j<h.next:=λj hj=>bk (hR.ok.pr j hj) hb;have hpf:∀j,h0.pf j->j<h.next:=λj hj=>bk (hR.ok.pf j hj) hb
 have hobj:∀j,j<h.next->({ h.lay h.next ob with next:=h.next+1 }:H).aV.get j=h.aV.get j:=by
  intro j hj
  rcases hob with⟨cs,aS,_,rfl,_⟩ | ⟨_,rfl⟩<;>exact bm _ _ gt
 have hfam:∀j,j<h.next->({ h.lay h.next ob with next:=h.next+1 }:H).dN.get j=h.dN.get j:=by
  intro j hj
  rcases hob with⟨cs,aS,_,rfl,_⟩ | ⟨_,rfl⟩
  ·exact bm _ _ gt
  ·rfl
 have hlow:({ h.lay h.next ob with next:=h.next+1 }:H).low=h.low:=by
  rcases hob with⟨cs,aS,_,rfl,_⟩ | ⟨_,rfl⟩<;>rfl
 refine hR.C6 (g:=aW S.length) (so':=cx S.length so) (by show h.next<=h.next+1;omega) (λj hj=>hobj j (hpr j hj)) (λj hj=>hfam j (hpf j hj)) (by rw[hlow];exact hR.lw) (by rw[hlow];exact en hR.ln) ⟨.inl rfl,⟨λhj=>cf _ (hpr _ hj),dc _⟩,⟨λhj=>cf _ (hpr _ hj),dc _⟩,⟨λhj=>cf _ (hpf _ hj),dc _⟩⟩ hg ?_ ?_ ?_ ?_ ?_
 ·intro p s hp hs hsg;obtain⟨⟨k1,k2,k3,k4⟩,_⟩:=hR.obj p s hs hsg;refine⟨hobj _ (by rcases k1 with e | e<;>omega),hfam _ k4.2,⟨?_,?_,?_,?_,?_⟩⟩<;>(simp only;omega)
 ·intro id ob' hi;have:=(hR.row id ob' hi).1;exact⟨hobj id this,by simp only;omega,by simp only;omega⟩
 ·rcases hob with⟨cs,aS,rfl,rfl,hv⟩ | ⟨rfl,rfl⟩
  ·exact⟨aS,da _ _ _,hv.map hg,da _ _ _⟩
  ·exact⟨[],0,da _ _ _,⟨rfl,⟨List.nodup_nil,λe he=>by simp at he⟩,λp hp=>by cases hp⟩,by rw[cj,cj,aU]⟩
 ·intro p hp;unfold iX
  have hl:(eC S.length S).length=S.length:=by unfold eC;rw[bd]
  rw[cc];split
  ·exact tj _ _ _
  ·rename_i hlt;rw[hl] at hlt ⊢;have:S[p]?=none:=a9 gt;rw[this,a9 (by simp;omega)];rfl
 ·unfold iX
  have hl:(eC S.length S).length=S.length:=by unfold eC;rw[bd]
  rw[ay gt,hl,cl];rfl
def qP{x:Nat}(hf:h.dN.get bX=some (x,y)){j:Nat}(hj:j≠bX):(h.alone id bX).dN.get j=h.dN.get j:=by
 unfold H.alone;rw[hf];simp only;cases beq x id&&beq y id
 ·exact bm _ _ hj
 ·rfl
def oX{a b c:Nat}(h1:c<=a)(h2:c<=b):c<=ic a b:=by
 unfold ic;cases ble a b
 ·exact h2
 ·exact h1
def DR{x b:Nat}(hf:h.dN.get bX=some (x,y))(hx:b<=x)(hy:b<=y)(hb:b<=h.low)(hn:h.low<=h.next):b<=(h.alone id bX).low/\(h.alone id bX).low<=h.next:=by
 unfold H.alone;rw[hf];simp only;cases beq x id&&beq y id
 ·exact⟨oX hb (oX hx hy),bv (ep _ _).1 hn⟩
 ·exact⟨hb,hn⟩
def RS.store{h0:En}{h:H}{S:List SO}{o:Nat}{cs vs:List SV}{off:Nat}{xs:List AV}(hR:RS θ ρ0 ρ h0 h S)(hS:S[o]?=some (.cells cs))(hv:df θ ρ vs xs)(hone:xs.all lu=true)(hle:off+vs.length<=cs.length):
 ∃h',h.store (θ o).id off xs=some h'/\RS (iH θ o ⟨(θ o).id,(θ o).bX,(θ o).id,(θ o).id⟩) ρ0 ρ h0 h' (S.set o (.cells (cs.take off++(vs++cs.drop (off+vs.length)))))/\∀v x,VS θ ρ v x->VS (iH θ o ⟨(θ o).id,(θ o).bX,(θ o).id,(θ o).id⟩) ρ v x:=by
 have hg:∀v x,VS θ ρ v x->VS (iH θ o ⟨(θ o).id,(θ o).bX,(θ o).id,(θ o).id⟩) ρ v x:=λv x hv=>hv.ids λp=>by
  by_cases hp:p=o
  ·subst hp;rw[cF]
  ·rw[bT _ _ hp]
 obtain⟨⟨k1,k2,k3,k4⟩,aS,q1,q2,q3⟩:=hR.obj o _ hS f7;have a2:(h.alone (θ o).id (θ o).bX).next=h.next:=(ug (Z:=0) (id:=(θ o).id) q3 (bo _) (bo _) (bo _)).2;have px:∀j,h0.pr j->j≠(θ o).x:=λj hj e=>k2.1 (e▸hj);have py:∀j,h0.pr j->j≠(θ o).y:=λj hj e=>k3.1 (e▸hj)
 have pi:∀j,h0.pr j->j≠(θ o).id:=λj hj=>by rcases k1 with e | e<;>rw[e];exact px j hj;exact py j hj
 have pfm:∀j,h0.pf j->j≠(θ o).bX:=λj hj e=>k4.1 (e▸hj)
 have lid:h0.lo<=(θ o).id:=by rcases k1 with e | e<;>rw[e];exact hR.ok.lo _ k2.1;exact hR.ok.lo _ k3.1
 have hidn:(θ o).id<h.next:=by rcases k1 with e | e<;>rw[e];exact k2.2;exact k3.2
 have al:=DR (id:=(θ o).id) q3 (hR.ok.lo _ k2.1) (hR.ok.lo _ k3.1) hR.lw hR.ln;have hl:=q2.length;have hlx:=hv.length;refine⟨{ h.alone (θ o).id (θ o).bX with aV:=(h.alone (θ o).id (θ o).bX).aV.put (θ o).id (some (.cells (aS.take off++(xs++aS.drop (off+xs.length))) (θ o).bX)),low:=ic (h.alone (θ o).id (θ o).bX).low (θ o).id },?_,?_,hg⟩
 ·unfold H.store;rw[q1];simp only;rw[fH (show off+xs.length<=aS.length by omega),hone];rfl
 ·refine hR.C6 (g:=λv=>v) (so':=.cells (cs.take off++(vs++cs.drop (off+vs.length)))) (by show h.next<=(h.alone _ _).next;omega) (λj hj=>?_) (λj hj=>qP q3 (pfm j hj)) (oX al.1 lid) ?_ ⟨.inl rfl,⟨λhj=>pi _ hj rfl,?_⟩,⟨λhj=>pi _ hj rfl,?_⟩,⟨k4.1,?_⟩⟩ hg ?_ ?_ ?_ ?_ ?_
  ·show(Tr.put _ _ _).get j=_;rw[bm _ _ (pi j hj)];exact lL q3 (px j hj) (py j hj)
  ·show ic (h.alone _ _).low _<=(h.alone _ _).next;rw[a2];exact bv (ep _ _).1 al.2
  ·show(θ o).id<(h.alone _ _).next;rw[a2];exact hidn
  ·show(θ o).id<(h.alone _ _).next;rw[a2];exact hidn
  ·show(θ o).bX<(h.alone _ _).next;rw[a2];exact k4.2
  ·intro p s hp hs hsg;have sp:=hR.sep p o s _ hp hs hsg hS f7;obtain⟨⟨j1,j2,j3,j4⟩,_⟩:=hR.obj p s hs hsg
   have e1:(θ p).id≠(θ o).x:=by rcases j1 with e | e<;>rw[e];exact sp.xx;exact sp.yx
   have e2:(θ p).id≠(θ o).y:=by rcases j1 with e | e<;>rw[e];exact sp.xy;exact sp.yy
   refine⟨?_,qP q3 sp.f,⟨?_,?_,?_,?_,sp.f⟩⟩
   ·show(Tr.put _ _ _).get _=_;rw[bm _ _ (by rcases k1 with e | e<;>rw[e]<;>assumption)];exact lL q3 e1 e2
   ·simp only;rcases k1 with e | e<;>rw[e];exact sp.xx;exact sp.xy
   ·simp only;rcases k1 with e | e<;>rw[e];exact sp.xx;exact sp.xy
   ·simp only;rcases k1 with e | e<;>rw[e];exact sp.yx;exact sp.yy
   ·simp only;rcases k1 with e | e<;>rw[e];exact sp.yx;exact sp.yy
  ·intro id ob hi;obtain⟨_,_,r3⟩:=hR.row id ob hi;obtain⟨e1,e2⟩:=r3 o _ hS f7
   have e3:id≠(θ o).id:=by rcases k1 with e | e<;>rw[e]<;>assumption
   refine⟨?_,e3,e3⟩;show(Tr.put _ _ _).get _=_;rw[bm _ _ e3];exact lL q3 e1 e2
  ·refine⟨_,da _ _ _,?_,DQ q3⟩
   have hw:df θ ρ (cs.take off++(vs++cs.drop (off+vs.length))) (aS.take off++(xs++aS.drop (off+xs.length))):=by
    rw[hlx];exact(q2.take off).app (hv.app (q2.drop (off+vs.length)))
   have:=hw.map hg;rw[List.map_id'] at this;exact this
  ·intro p hp;rw[cd (λe=>hp e.symm)]
   cases S[p]? with
   | none=>rfl
   | some s=>rw[m6,vO]
  ·rw[b8 (aR hS)]
def RS.PJ{h0:En}{o:Nat}{ks ks':List AV}{vs vs':List SV}{l':List (AV×AV×Nat)}{c':Nat}{b b':Option (List Nat×Nat)}(hR:RS θ ρ0 ρ h0 h S)(hS:S[o]?=some (.map ks vs b))(h1:T0 l' c' ks' b')(h2:df θ ρ vs' (l'.map (·.2.1))):
 RS θ ρ0 ρ h0 (h.set (θ o).id (.map l' c')) (S.set o (.map ks' vs' b')):=by
 obtain⟨⟨k1,k2,k3,k4⟩,l,c,q1,q2,q3⟩:=hR.obj o _ hS f7
 have heq:iH θ o (θ o)=θ:=by
  funext p;unfold iH;split
  ·rename_i e;rw[e]
  ·rfl
 have hg:∀v x,VS θ ρ v x->VS (iH θ o (θ o)) ρ v x:=λv x hv=>by rw[heq];exact hv
 have pi:∀j,h0.pr j->j≠(θ o).id:=λj hj e=>by rcases k1 with e' | e'<;>rw[e'] at e;exact k2.1 (e▸hj);exact k3.1 (e▸hj)
 have lid:h0.lo<=(θ o).id:=by rcases k1 with e | e<;>rw[e];exact hR.ok.lo _ k2.1;exact hR.ok.lo _ k3.1
 have:=hR.C6 (g:=λv=>v) (h':=h.set (θ o).id (.map l' c')) (S':=S.set o (.map ks' vs' b')) (so':=.map ks' vs' b') (L':=θ o) (ax _) (λj hj=>bm _ _ (pi j hj)) (λj hj=>rfl) (oX hR.lw lid) (bv (ep _ _).1 hR.ln) ⟨k1,k2,k3,k4⟩ hg ?_ ?_ ?_ ?_ ?_
 ·rw[heq] at this;exact this
 ·intro p s hp hs hsg;have sp:=hR.sep p o s _ hp hs hsg hS f7;obtain⟨⟨j1,j2,j3,j4⟩,_⟩:=hR.obj p s hs hsg;refine⟨bm _ _ ?_,rfl,sp⟩
  rcases j1 with e | e<;>rcases k1 with e' | e'<;>rw[e,e']
  ·exact sp.xx
  ·exact sp.xy
  ·exact sp.yx
  ·exact sp.yy
 ·intro id ob hi;obtain⟨_,_,r3⟩:=hR.row id ob hi;obtain⟨e1,e2⟩:=r3 o _ hS f7;exact⟨bm _ _ (by rcases k1 with e | e<;>rw[e]<;>assumption),e1,e2⟩
 ·rw[heq];exact⟨l',c',da _ _ _,h1,h2⟩
 ·intro p hp;rw[cd (λe=>hp e.symm)]
  cases S[p]? with
  | none=>rfl
  | some s=>rw[m6,vO]
 ·rw[b8 (aR hS)]
def RS.fork{h0:En}{o n:Nat}{cs vs:List SV}(hR:RS θ ρ0 ρ h0 h S)(hS:S[o]?=some (.cells cs))(hv:df θ ρ vs xs)(has:h.aV.get (θ o).id=some (.cells aS (θ o).bX))(hle:n<=cs.length):
 (h.alone (θ o).id (θ o).bX).next=h.next/\RS (iH θ o ⟨h.next,(θ o).bX,(θ o).id,h.next⟩) ρ0 ρ h0 (h.fe (θ o).id (θ o).bX (aS.take n) ((aS.drop 0).take n++xs)) ((eC o S).set o (cx o (.cells (cs.take n++vs))))/\∀v x,VS θ ρ v x->VS (iH θ o ⟨h.next,(θ o).bX,(θ o).id,h.next⟩) ρ (aW o v) x:=by
 have hg:∀v x,VS θ ρ v x->VS (iH θ o ⟨h.next,(θ o).bX,(θ o).id,h.next⟩) ρ (aW o v) x:=λv x hv=>jO (λp hp=>bT _ _ hp) hv;obtain⟨⟨k1,k2,k3,k4⟩,as',q1,q2,q3⟩:=hR.obj o _ hS f7;rw[has] at q1;cases q1;have a2:(h.alone (θ o).id (θ o).bX).next=h.next:=(ug (Z:=0) (id:=(θ o).id) q3 (bo _) (bo _) (bo _)).2;have px:∀j,h0.pr j->j≠(θ o).x:=λj hj e=>k2.1 (e▸hj);have py:∀j,h0.pr j->j≠(θ o).y:=λj hj e=>k3.1 (e▸hj)
 have pi:∀j,h0.pr j->j≠(θ o).id:=λj hj=>by rcases k1 with e | e<;>rw[e];exact px j hj;exact py j hj
 have pfm:∀j,h0.pf j->j≠(θ o).bX:=λj hj e=>k4.1 (e▸hj)
 have lid:h0.lo<=(θ o).id:=by rcases k1 with e | e<;>rw[e];exact hR.ok.lo _ k2.1;exact hR.ok.lo _ k3.1
 have hidn:(θ o).id<h.next:=by rcases k1 with e | e<;>rw[e];exact k2.2;exact k3.2
 have al:=DR (id:=(θ o).id) q3 (hR.ok.lo _ k2.1) (hR.ok.lo _ k3.1) hR.lw hR.ln;have hid:(θ o).id<h.next:=hidn;have hb:=hR.nx;have hprn:∀j,h0.pr j->j<h.next:=λj hj=>bk (hR.ok.pr j hj) hb;refine⟨a2,?_,hg⟩;refine hR.C6 (g:=aW o) (so':=cx o (.cells (cs.take n++vs))) (by show h.next<=(h.alone _ _).next+1;omega) (λj hj=>?_) (λj hj=>?_) ?_ ?_ ⟨.inr rfl,⟨λhj=>pi _ hj rfl,?_⟩,⟨λhj=>cf _ (hprn _ hj),?_⟩,⟨k4.1,?_⟩⟩ hg ?_ ?_ ?_ ?_ ?_
 ·simp only[H.fe];rw[a2,bm _ _ (by have:=hprn j hj;omega),bm _ _ (pi j hj)];exact lL q3 (px j hj) (py j hj)
 ·simp only[H.fe];rw[bm _ _ (pfm j hj)];exact qP q3 (pfm j hj)
 ·simp only[H.fe];exact oX al.1 lid
 ·simp only[H.fe];rw[a2];exact en (bv (ep _ _).1 al.2)
 ·simp only[H.fe,a2];omega
 ·simp only[H.fe,a2];omega
 ·simp only[H.fe,a2];have:=k4.2;omega
 ·intro p s hp hs hsg;have sp:=hR.sep p o s _ hp hs hsg hS f7;obtain⟨⟨j1,j2,j3,j4⟩,_⟩:=hR.obj p s hs hsg
  have e1:(θ p).id≠(θ o).x:=by rcases j1 with e | e<;>rw[e];exact sp.xx;exact sp.yx
  have e2:(θ p).id≠(θ o).y:=by rcases j1 with e | e<;>rw[e];exact sp.xy;exact sp.yy
  have e3:(θ p).id<h.next:=by rcases j1 with e | e<;>omega
  refine⟨?_,?_,⟨?_,?_,?_,?_,sp.f⟩⟩
  ·simp only[H.fe];rw[a2,bm _ _ gt,bm _ _ (by rcases k1 with e | e<;>rw[e]<;>assumption)];exact lL q3 e1 e2
  ·simp only[H.fe];rw[bm _ _ sp.f];exact qP q3 sp.f
  ·simp only;rcases k1 with e | e<;>rw[e];exact sp.xx;exact sp.xy
  ·simp only;omega
  ·simp only;rcases k1 with e | e<;>rw[e];exact sp.yx;exact sp.yy
  ·simp only;omega
 ·intro id ob hi;obtain⟨r1,_,r3⟩:=hR.row id ob hi;obtain⟨e1,e2⟩:=r3 o _ hS f7
  have e3:id≠(θ o).id:=by rcases k1 with e | e<;>rw[e]<;>assumption
  refine⟨?_,e3,by simp only;omega⟩;simp only[H.fe];rw[a2,bm _ _ gt,bm _ _ e3];exact lL q3 e1 e2
 ·refine⟨_,?_,((q2.take n).app hv).map hg,?_⟩
  ·simp only[H.fe];rw[a2,da,ei]
  ·simp only[H.fe];rw[da,a2]
 ·intro p hp;rw[cd (λe=>hp e.symm)];exact tj _ _ _
 ·rw[b8 (by unfold eC;rw[bd];exact aR hS)]
end
end
end Go.Ev
