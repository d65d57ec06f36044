/- A part of the texts of this claim: every theorem says what it proves, with its conditions. -/
import Derived.Test.YtnaiockballhaaaGreatA1
import Derived.Laws.Cells
set_option linter.unusedSimpArgs false
set_option linter.unusedVariables false
set_option linter.unusedSectionVars false
open Nat (beq le_refl lt_or_ge le_trans ble blt)
open List (getElem?_eq_none)
open Option (bind_some map_some)
namespace Go.Ev
theorem get_nil{α:Type}(k:Nat):(Tr.nil:Tr α).get k=none:=rfl
theorem cP{a b:Nat}(h:beq a b=true):a=b:=Nat.eq_of_beq_eq_true h
theorem KV{a b:Nat}(h:a=b):Nat.beq a b=true:=by subst h;simp
theorem iO{a b:Nat}(h:ble a b=true):a<=b:=Nat.le_of_ble_eq_true h
theorem ek{a b:Nat}(h:a<=b):Nat.ble a b=true:=by simpa using h
theorem fQ{a b:Nat}(h:blt a b=true):a<b:=Nat.le_of_ble_eq_true h
theorem ah{α:Sort _}(a b:α):cond true a b=a:=rfl
theorem ao{α:Sort _}(a b:α):cond false a b=b:=rfl
theorem JF{α:Type}(b:Bool)(x y:α):Bool.rec (motive:=λ_=>α) y x b=cond b x y:=by cases b<;>rfl
theorem jt{α:Type}(v:Option α)(l r:Tr α)(k:Nat):
 (Tr.node v l r).get k=if k=0 then v else if k%2=1 then l.get ((k-1)/2) else r.get ((k-1)/2):=by
 have e:(Tr.node v l r).get k=cond (beq k 0) v (cond (beq (k%2) 1) (l.get ((k-1)/2)) (r.get ((k-1)/2))):=by
  rw[<-JF,<-JF];rfl
 rw[e];by_cases h0:k=0
 ·simp[h0]
 ·have e0:beq k 0=false:=by cases k<;>simp_all [beq]
  rw[e0,ao,if_neg h0];by_cases h1:k%2=1
  ·have e1:beq (k%2) 1=true:=KV h1;rw[e1,ah,if_pos h1]
  ·have e1:beq (k%2) 1=false:=by
    cases hb:beq (k%2) 1
    ·rfl
    ·exact absurd (cP hb) h1
   rw[e1,ao,if_neg h1]
theorem J7{α:Type}(x:Option α)(f k:Nat):
 Tr.lone x (f+1) k=if k=0 then .node x .nil .nil else if k%2=1 then .node none (Tr.lone x f ((k-1)/2)) .nil else .node none .nil (Tr.lone x f ((k-1)/2)):=by
 have e:Tr.lone x (f+1) k=cond (beq k 0) (.node x .nil .nil) (cond (beq (k%2) 1) (.node none (Tr.lone x f ((k-1)/2)) .nil) (.node none .nil (Tr.lone x f ((k-1)/2)))):=by
  rw[<-JF,<-JF];rfl
 rw[e];by_cases h0:k=0
 ·simp[h0]
 ·have e0:beq k 0=false:=by cases k<;>simp_all [beq]
  rw[e0,ao,if_neg h0];by_cases h1:k%2=1
  ·have e1:beq (k%2) 1=true:=KV h1;rw[e1,ah,if_pos h1]
  ·have e1:beq (k%2) 1=false:=by
    cases hb:beq (k%2) 1
    ·rfl
    ·exact absurd (cP hb) h1
   rw[e1,ao,if_neg h1]
theorem Mt{α:Type}(v:Option α)(l r:Tr α)(k:Nat)(x:Option α):
 (Tr.node v l r).put k x=if k=0 then .node x l r else if k%2=1 then .node v (l.put ((k-1)/2) x) r else .node v l (r.put ((k-1)/2) x):=by
 have e:(Tr.node v l r).put k x=cond (beq k 0) (.node x l r) (cond (beq (k%2) 1) (.node v (l.put ((k-1)/2) x) r) (.node v l (r.put ((k-1)/2) x))):=by
  rw[<-JF,<-JF];rfl
 rw[e];by_cases h0:k=0
 ·simp[h0]
 ·have e0:beq k 0=false:=by cases k<;>simp_all [beq]
  rw[e0,ao,if_neg h0];by_cases h1:k%2=1
  ·have e1:beq (k%2) 1=true:=KV h1;rw[e1,ah,if_pos h1]
  ·have e1:beq (k%2) 1=false:=by
    cases hb:beq (k%2) 1
    ·rfl
    ·exact absurd (cP hb) h1
   rw[e1,ao,if_neg h1]
theorem xK{α:Type}(x:Option α):∀(f k j:Nat),k<f->(Tr.lone x f k).get j=if j=k then x else none
 | 0,k,j,h=>by omega
 | f+1,k,j,h=>by
  rw[J7];by_cases h0:k=0
  ·subst h0;rw[if_pos rfl,jt];simp only[get_nil];by_cases hj:j=0<;>simp[hj]
  ·rw[if_neg h0];by_cases h1:k%2=1
   ·rw[if_pos h1,jt,xK x f _ _ (by omega)];simp only[get_nil];by_cases hj:j=0
    ·rw[if_pos hj,if_neg (by omega)]
    ·rw[if_neg hj];by_cases hj1:j%2=1
     ·rw[if_pos hj1];by_cases e:j=k
      ·subst e;simp
      ·rw[if_neg (by omega),if_neg e]
     ·rw[if_neg hj1,if_neg (by omega)]
   ·rw[if_neg h1,jt,xK x f _ _ (by omega)];simp only[get_nil];by_cases hj:j=0
    ·rw[if_pos hj,if_neg (by omega)]
    ·rw[if_neg hj];by_cases hj1:j%2=1
     ·rw[if_pos hj1,if_neg (by omega)]
     ·rw[if_neg hj1];by_cases e:j=k
      ·subst e;simp
      ·rw[if_neg (by omega),if_neg e]
theorem dw{α:Type}(t:Tr α)(k j:Nat)(x:Option α):(t.put k x).get j=if j=k then x else t.get j:=by
 induction t generalizing k j with
 | nil=>
  have e:(Tr.nil:Tr α).put k x=Tr.lone x (k+1) k:=rfl;rw[e,xK x _ _ _ (by omega),get_nil]
 | node v l r il ir=>
  rw[Mt];by_cases h0:k=0
  ·subst h0;rw[if_pos rfl,jt,jt];by_cases hj:j=0<;>simp[hj]
  ·rw[if_neg h0];by_cases h1:k%2=1
   ·rw[if_pos h1,jt,jt,il];by_cases hj:j=0
    ·simp only[hj,if_true];rw[if_neg (by omega)]
    ·simp only[hj,if_false];by_cases hj1:j%2=1
     ·simp only[hj1,if_true];by_cases e:j=k
      ·simp[e]
      ·rw[if_neg (by omega),if_neg e]
     ·simp only[hj1,if_false];rw[if_neg (by omega)]
   ·rw[if_neg h1,jt,jt,ir];by_cases hj:j=0
    ·simp only[hj,if_true];rw[if_neg (by omega)]
    ·simp only[hj,if_false];by_cases hj1:j%2=1
     ·simp only[hj1,if_true];rw[if_neg (by omega)]
     ·simp only[hj1,if_false];by_cases e:j=k
      ·simp[e]
      ·rw[if_neg (by omega),if_neg e]
theorem cR{α:Type}(t:Tr α)(k:Nat)(x:Option α):(t.put k x).get k=x:=by rw[dw,if_pos rfl]
theorem bj{α:Type}(t:Tr α){k j:Nat}(x:Option α)(h:j≠k):(t.put k x).get j=t.get j:=by rw[dw,if_neg h]
theorem aK{α:Type}{c:Bool}{x:Option α}{y:α}(h:cond c x none=some y):c=true/\x=some y:=by
 cases c
 ·simp at h
 ·exact⟨rfl,h⟩
theorem gM{a b:Nat}(h:beq a b=false):a≠b:=λe=>by subst e;simp at h
theorem wg{a b:Nat}(h:ble a b=false):b<a:=by
 apply Nat.lt_of_not_le;intro e;rw[ek e] at h;simp at h
theorem Il{a b:Nat}(h:blt a b=false):b<=a:=by
 have:=wg h;omega
theorem gP(a b:Int):qP a b=decide (a<=b):=by
 unfold qP
 cases h:b-a with
 | ofNat n=>
  have:a<=b:=by have:=Int.natCast_nonneg n;simp only[Int.ofNat_eq_natCast] at h;omega
  simp[this]
 | negSucc n=>
  have:¬a<=b:=by have:=Int.negSucc_lt_zero n;omega
  simp[this]
theorem rW(a b:Int):NC a b=(a==b):=by
 unfold NC;rw[gP,gP];by_cases h:a=b
 ·subst h;simp
 ·have:(a==b)=false:=by simpa using h
  rw[this];by_cases h1:a<=b
  ·have:¬b<=a:=by omega
   simp[h1,this]
  ·simp[h1]
theorem wj(a b:IntKind):xF a b=true↔a=b:=by cases a<;>cases b<;>simp[xF]
theorem gL(k:IntKind)(n:Int):dH k n=k.wrap n:=by
 unfold dH;cases hc:qP (LX k) n&&qP n (LJ k)
 ·rfl
 ·rw[ah];simp only[Bool.and_eq_true,gP,decide_eq_true_eq] at hc;obtain⟨h1,h2⟩:=hc;unfold IntKind.wrap;cases k<;>simp only[LX,LJ,IntKind.bits,IntKind.signed] at h1 h2 ⊢<;>simp<;>omega
theorem BQ:∀a b:List Nat,tE a b=decide (a=b)
 | [],[]=>by simp[tE]
 | [],b::y=>by simp[tE]
 | a::x,[]=>by simp[tE]
 | a::x,b::y=>by
  simp only[tE,BQ x y,List.cons.injEq];cases h:beq a b
  ·simp[gM h]
  ·simp[cP h]
structure rH where
 b:Nat
 d:Nat
 r:Nat
abbrev Sg:=Nat->Option rH
inductive V (σ:Sg):AV->Value->Prop
 | bool (b):V σ (.bool b) (.bool b)
 | int (k n):V σ (.int k n) (.int k n)
 | str {l:List Nat} {s:ByteArray} (h:s.data.toList.map (·.toNat)=l):V σ (.str l) (.string s)
 | Pq:V σ (.ptr none) (.pointer none)
 | ptr {id off:Nat} {p:rH} (h:σ id=some p):V σ (.ptr (some (id,off))) (.pointer (some ⟨p.b,p.d+off,none⟩))
 | ic {l e:Nat} (hl:l=0):V σ (.slice none l e (some 0)) (.slice none 0 0)
 | slice {id off len es:Nat} {cap:Option Nat} {a:Addr} {p:rH} {c:Nat} (h:σ id=some p) (hl:len<=c) (hr:off+c*es<=p.r) (hc:∀x,cap=some x->x=c)
  (ha:a=⟨p.b,p.d+off,none⟩\/c=0):V σ (.slice (some (id,off)) len es cap) (.slice (some a) len c)
 | Pj:V σ (.map none) (.map none)
 | map {id:Nat} {p:rH} (h:σ id=some p):V σ (.map (some id)) (.map (some p.b))
 | fn {f:Fn} {fs cs:List AV} {fs' cs':Array Value} (hf:∀l,f≠.yield l) (h1:fs.length=fs'.size) (h2:∀(i:Nat) (a:AV) (v:Value),fs[i]?=some a->fs'[i]?=some v->V σ a v)
  (h3:cs.length=cs'.size) (h4:∀(i:Nat) (a:AV) (v:Value),cs[i]?=some a->cs'[i]?=some v->V σ a v):V σ (.fn f fs cs) (.func f fs' cs')
 | yield {id:Nat} {p:rH} (h:σ id=some p):V σ (.fn (.yield id) [] []) (.func (.yield p.b) #[] #[])
 | ga:V σ .ga .nilFunc
 | iface {t:TypeId} {a:AV} {v:Value} (h:V σ a v):V σ (.iface t a) (.iface t v)
 | vM:V σ .vM .nilIface
 | any {v:Value} (h:∀vs,v≠.agg vs):V σ .any v
 | agg {cs:List AV} {vs:Array Value} (h1:cs.length=vs.size) (h2:∀(i:Nat) (a:AV) (v:Value),cs[i]?=some a->vs[i]?=some v->V σ a v):V σ (.agg cs) (.agg vs)
 | bI {cs:List AV} {vs:Array Value} (h1:cs.length=vs.size) (h2:∀(i:Nat) (a:AV) (v:Value),cs[i]?=some a->vs[i]?=some v->V σ a v):V σ (.bI cs) (.tuple vs)
def VL(σ:Sg)(cs:List AV)(vs:List Value):Prop:=cs.length=vs.length/\∀(i:Nat) (a:AV) (v:Value),cs[i]?=some a->vs[i]?=some v->V σ a v
theorem V.mono{σ σ':Sg}(hle:∀id p,σ id=some p->σ' id=some p){a:AV}{v:Value}(h:V σ a v):V σ' a v:=by
 induction h with
 | bool b=>exact .bool b
 | int k n=>exact .int k n
 | str h=>exact .str h
 | Pq=>exact .Pq
 | ptr h=>exact .ptr (hle _ _ h)
 | ic h=>exact .ic h
 | slice h hl hr hc ha=>exact .slice (hle _ _ h) hl hr hc ha
 | Pj=>exact .Pj
 | map h=>exact .map (hle _ _ h)
 | fn hf h1 h2 h3 h4 ih2 ih4=>exact .fn hf h1 (λi a v x y=>ih2 i a v x y) h3 (λi a v x y=>ih4 i a v x y)
 | yield h=>exact .yield (hle _ _ h)
 | ga=>exact .ga
 | iface h ih=>exact .iface ih
 | vM=>exact .vM
 | any h=>exact .any h
 | agg h1 h2 ih=>exact .agg h1 (λi a v x y=>ih i a v x y)
 | bI h1 h2 ih=>exact .bI h1 (λi a v x y=>ih i a v x y)
theorem VL.mono{σ σ':Sg}(hle:∀id p,σ id=some p->σ' id=some p){a:List AV}{v:List Value}(h:VL σ a v):VL σ' a v:=
 ⟨h.1,λi a v x y=>(h.2 i a v x y).mono hle⟩
theorem VL.nil{σ:Sg}:VL σ [] []:=⟨rfl,λi a v h _=>by simp at h⟩
theorem VL.cons{σ:Sg}{a:AV}{v:Value}{aS:List AV}{vs:List Value}(h:V σ a v)(hs:VL σ aS vs):VL σ (a::aS) (v::vs):=by
 refine⟨by simp[hs.1],?_⟩;intro i x y hx hy
 cases i with
 | zero=>simp at hx hy;subst hx;subst hy;exact h
 | succ i=>simp at hx hy;exact hs.2 i x y hx hy
theorem VL.of_cons{σ:Sg}{a:AV}{v:Value}{aS:List AV}{vs:List Value}(h:VL σ (a::aS) (v::vs)):V σ a v/\VL σ aS vs:=
 ⟨h.2 0 a v (by simp) (by simp),⟨by have:=h.1;simpa using this,λi x y hx hy=>h.2 (i+1) x y (by simpa using hx) (by simpa using hy)⟩⟩
theorem VL.dF{σ:Sg}{a:AV}{aS:List AV}{l:List Value}(h:VL σ (a::aS) l):∃v vs,l=v::vs/\V σ a v/\VL σ aS vs:=by
 cases l with
 | nil=>have:=h.1;simp at this
 | cons v vs=>exact⟨v,vs,rfl,h.of_cons.1,h.of_cons.2⟩
theorem VL.og{σ:Sg}{l:List Value}(h:VL σ [] l):l=[]:=by
 have:=h.1;cases l with
 | nil=>rfl
 | cons v vs=>simp at this
theorem VL.get{σ:Sg}{aS:List AV}{vs:List Value}(h:VL σ aS vs){i:Nat}{a:AV}(ha:aS[i]?=some a):∃v,vs[i]?=some v/\V σ a v:=by
 have hi:i<aS.length:=by
  rcases lt_or_ge i aS.length with h | h
  ·exact h
  ·simp[getElem?_eq_none h] at ha
 have hv:i<vs.length:=h.1▸hi;exact⟨vs[i],List.getElem?_eq_getElem hv,h.2 i a _ ha (List.getElem?_eq_getElem hv)⟩
theorem VL.append{σ:Sg}{aS bs:List AV}{vs ws:List Value}(h:VL σ aS vs)(k:VL σ bs ws):VL σ (aS++bs) (vs++ws):=by
 refine⟨by simp[h.1,k.1],?_⟩;intro i x y hx hy;rw[List.getElem?_append] at hx hy;have e:=h.1;by_cases hi:i<aS.length
 ·rw[if_pos hi] at hx;rw[if_pos (by omega)] at hy;exact h.2 i x y hx hy
 ·rw[if_neg hi] at hx;rw[if_neg (by omega),<-e] at hy;exact k.2 _ x y hx hy
theorem VL.drop{σ:Sg}{aS:List AV}{vs:List Value}(h:VL σ aS vs)(n:Nat):VL σ (aS.drop n) (vs.drop n):=
 ⟨by simp[h.1],λi x y hx hy=>h.2 (n+i) x y (by simpa [List.getElem?_drop] using hx) (by simpa [List.getElem?_drop] using hy)⟩
theorem VL.take{σ:Sg}{aS:List AV}{vs:List Value}(h:VL σ aS vs)(n:Nat):VL σ (aS.take n) (vs.take n):=by
 refine⟨by simp[h.1],?_⟩;intro i x y hx hy;rw[List.getElem?_take] at hx hy;by_cases hi:i<n
 ·rw[if_pos hi] at hx hy;exact h.2 i x y hx hy
 ·rw[if_neg hi] at hx;simp at hx
theorem V.nb{σ:Sg}{cs:List AV}{v:Value}(h:V σ (.agg cs) v):∃vs,v=.agg vs/\VL σ cs vs.toList:=by
 cases h with
 | agg h1 h2=>exact⟨_,rfl,by simpa using h1,λi a v x y=>h2 i a v x (by simpa using y)⟩
theorem V.G8{σ:Sg}{cs:List AV}{v:Value}(h:V σ (.bI cs) v):∃vs,v=.tuple vs/\VL σ cs vs.toList:=by
 cases h with
 | bI h1 h2=>exact⟨_,rfl,by simpa using h1,λi a v x y=>h2 i a v x (by simpa using y)⟩
theorem V.Pm{σ:Sg}{cs:List AV}{vs:List Value}(h:VL σ cs vs):V σ (.agg cs) (.agg vs.toArray):=.agg (by simpa using h.1) (λi a v x y=>h.2 i a v x (by simpa using y))
theorem V.wq{σ:Sg}{cs:List AV}{vs:Array Value}(h:VL σ cs vs.toList):V σ (.agg cs) (.agg vs):=.agg (by simpa using h.1) (λi a v x y=>h.2 i a v x (by simpa using y))
theorem V.L7{σ:Sg}{cs:List AV}{vs:List Value}(h:VL σ cs vs):V σ (.bI cs) (.tuple vs.toArray):=.bI (by simpa using h.1) (λi a v x y=>h.2 i a v x (by simpa using y))
theorem V.fE{σ:Sg}{cs:List AV}{vs:Array Value}(h:VL σ cs vs.toList):V σ (.bI cs) (.tuple vs):=.bI (by simpa using h.1) (λi a v x y=>h.2 i a v x (by simpa using y))
theorem V.kh{σ:Sg}:V σ kh undef:=.bI (by simp) (λi a v h _=>by simp at h)
theorem V.cells{σ:Sg}{a:AV}{v:Value}(h:V σ a v):VL σ a.cells v.cells.toList:=by
 cases h with
 | agg h1 h2=>exact⟨by simpa [AV.cells,Value.cells] using h1,λi a v x y=>h2 i a v x (by simpa [Value.cells] using y)⟩
 | any h=>
  cases v with
  | agg vs=>exact absurd rfl (h vs)
  | _=>exact .cons (.any h) .nil
 | _=>exact .cons (by constructor<;>assumption) .nil
theorem V.j7{σ:Sg}{a:AV}{v:Value}(h:V σ a v)(ho:j7 a=true):v.oneCell'=true:=by
 cases h<;>simp_all [Ev.j7,Value.oneCell']
theorem VL.j7{σ:Sg}{aS:List AV}{vs:List Value}(h:VL σ aS vs)(ho:aS.all Ev.j7=true):∀v∈vs,v.oneCell'=true:=by
 intro v hv;obtain⟨i,hi⟩:=List.mem_iff_getElem?.1 hv
 have hlt:i<vs.length:=by
  rcases lt_or_ge i vs.length with h | h
  ·exact h
  ·simp[getElem?_eq_none h] at hi
 have ha:aS[i]?=some (aS[i]'(by have:=h.1;omega)):=List.getElem?_eq_getElem _;exact(h.2 i _ v ha hi).j7 (List.all_eq_true.1 ho _ (List.getElem_mem _))
theorem tI{n:Nat}{σ:Sg}(ih:∀v a,kT n v=some a->V σ a v):∀(l:List Value) (aS:List AV),l.mapM (kT n)=some aS->VL σ aS l
 | [],aS,h=>by simp at h;subst h;exact .nil
 | v::l,aS,h=>by
  rw[List.mapM_cons] at h
  cases h1:kT n v with
  | none=>simp[h1] at h
  | some a=>
   cases h2:l.mapM (kT n) with
   | none=>simp[h1,h2] at h
   | some bs=>simp[h1,h2] at h;subst h;exact .cons (ih v a h1) (tI ih l bs h2)
theorem K4{σ:Sg}:∀(n:Nat) (v:Value) (a:AV),kT n v=some a->V σ a v:=by
 intro n
 induction n with
 | zero=>intro v a h;simp[kT] at h
 | succ n ih=>
  intro v a h;unfold kT at h;split at h
  all_goals first
   | (simp only[Option.some.injEq] at h;subst h;first | exact .bool _ | exact .int _ _ | exact .str rfl | exact .Pq | exact .ic rfl | exact .Pj | exact .ga | exact .vM)
   | skip
  ·rename_i cs
   cases h1:cs.toList.mapM (kT n) with
   | none=>simp[h1] at h
   | some aS=>simp[h1] at h;subst h;exact .wq (tI ih _ _ h1)
  ·rename_i cs
   cases h1:cs.toList.mapM (kT n) with
   | none=>simp[h1] at h
   | some aS=>simp[h1] at h;subst h;exact .fE (tI ih _ _ h1)
  ·rename_i t v
   cases h1:kT n v with
   | none=>simp[h1] at h
   | some aS=>simp[h1] at h;subst h;exact .iface (ih _ _ h1)
  ·simp at h
def ER(σ:Sg)(e:AV×AV×Nat)(m:MapEntry):Prop:=V σ e.1 m.key/\V σ e.2.1 m.val/\e.2.2=m.born
def TR(σ:Sg)(t:Tr AV)(n:Nat)(tmps:Array Value):Prop:=tmps.size=n/\∀i,V σ ((t.get i).getD kh) (tmps.getD i undef)
def BL(s:ByteArray):List Nat:=s.data.toList.map (·.toNat)
def OR(σ:Sg)(o:AO)(p:rH)(b:Option Obj):Prop:=match o with
 | .cells cs _=>∃c e,b=some (.cells c e (0,0))/\p.d+p.r<=c.size/\cs.length<=p.r/\∀(i:Nat) (a:AV),cs[i]?=some a->∃v,c[p.d+i]?=some v/\V σ a v
 | .ro cs=>∃c e f,b=some (.cells c e f)/\p.d+p.r<=c.size/\cs.length<=p.r/\∀(i:Nat) (a:AV),cs[i]?=some a->∃v,c[p.d+i]?=some v/\V σ a v
 | .map es ck=>∃es':Array MapEntry,b=some (.map es' ck)/\es.length=es'.size/\∀(i:Nat) (e:AV×AV×Nat) (m:MapEntry),es[i]?=some e->es'[i]?=some m->ER σ e m
 | .Jn s pos=>∃s',b=some (.stringIter s' pos)/\BL s'=s/\p.d=0
 | .iE m since seen st=>∃m',b=some (.mapIter m' since seen.toArray st)/\p.d=0/\(match m with
  | none=>m'=none
  | some id=>∃q,σ id=some q/\m'=some q.b)
 | .loop st pend t n ps a bd d=>∃f tmps q,b=some (.loop { state:=st,pending:=pend,fn:=f,tmps,params:=ps,assign:=a,body:=bd,defers:=q.b })/\σ d=some q/\TR σ t n tmps
 | .ni tk=>b=some (.deferred (if tk then none else some []))
theorem TR.mono{σ σ':Sg}(hle:∀id p,σ id=some p->σ' id=some p){t:Tr AV}{n:Nat}{tmps:Array Value}(h:TR σ t n tmps):TR σ' t n tmps:=
 ⟨h.1,λi=>(h.2 i).mono hle⟩
theorem OR.mono{σ σ':Sg}(hle:∀id p,σ id=some p->σ' id=some p){o:AO}{p:rH}{b:Option Obj}(h:OR σ o p b):OR σ' o p b:=by
 cases o with
 | cells cs f=>obtain⟨c,e,h1,h2,h3,h4⟩:=h;exact⟨c,e,h1,h2,h3,λi a ha=>let ⟨v,hv,hV⟩:=h4 i a ha;⟨v,hv,hV.mono hle⟩⟩
 | ro cs=>obtain⟨c,e,f,h1,h2,h3,h4⟩:=h;exact⟨c,e,f,h1,h2,h3,λi a ha=>let ⟨v,hv,hV⟩:=h4 i a ha;⟨v,hv,hV.mono hle⟩⟩
 | map es ck=>obtain⟨es',h1,h2,h3⟩:=h;exact⟨es',h1,h2,λi e m he hm=>let ⟨a,b,c⟩:=h3 i e m he hm;⟨a.mono hle,b.mono hle,c⟩⟩
 | Jn s pos=>exact h
 | iE m since seen st=>
  obtain⟨m',h1,h0,h2⟩:=h;refine⟨m',h1,h0,?_⟩
  cases m with
  | none=>exact h2
  | some id=>obtain⟨q,hq,hm⟩:=h2;exact⟨q,hle _ _ hq,hm⟩
 | loop st pend t n ps a bd d=>obtain⟨f,tmps,q,h1,h2,h3⟩:=h;exact⟨f,tmps,q,h1,hle _ _ h2,h3.mono hle⟩
 | ni tk=>exact h
theorem OR.some{σ:Sg}{o:AO}{p:rH}{b:Option Obj}(h:OR σ o p b):b≠none:=by
 intro e;subst e;cases o<;>simp[OR] at h
def K2(o o':AO):Prop:=(∃cs cs' f,o=.cells cs f/\o'=.cells cs' f)\/(∃cs cs',o=.ro cs/\o'=.ro cs')
theorem K2.left{o:AO}{cs:List AV}{f:Nat}(h:K2 o (.cells cs f)):∃cs',o=.cells cs' f:=by
 rcases h with⟨a,b,c,e1,e2⟩ | ⟨a,b,e1,e2⟩
 ·cases e2;exact⟨_,e1⟩
 ·cases e2
structure HR (σ:Sg) (h:H) (w:World):Prop where
 obj:∀id o,h.aQ.get id=some o->∃p,σ id=some p/\OR σ o p w.heap[p.b]?
 fresh:∀id,h.next<=id->σ id=none
 sep:∀i j o o' p q,i≠j->h.aQ.get i=some o->h.aQ.get j=some o'->σ i=some p->σ j=some q->p.b=q.b->K2 o o'
 bZ:∀i cs f,h.aQ.get i=some (.cells cs f)->f<h.next/\∃x y,h.dA.get f=some (x,y)/\(i=x\/i=y)
 y8:h.low<=h.next
theorem AW{w:World}{b:Nat}(h:w.heap[b]?≠none):b<w.heap.size:=by
 rcases lt_or_ge b w.heap.size with h' | h'
 ·exact h'
 ·simp[h'] at h
theorem HR.lt{σ:Sg}{h:H}{w:World}(hr:HR σ h w){id:Nat}{o:AO}{p:rH}(ho:h.aQ.get id=some o)(hp:σ id=some p):p.b<w.heap.size:=by
 obtain⟨q,hq,hor⟩:=hr.obj id o ho;rw[hp] at hq;cases hq;exact AW hor.some
theorem HR.Ro{σ:Sg}{h:H}{w:World}(hr:HR σ h w){id:Nat}{o:AO}(ho:h.aQ.get id=some o):id<h.next:=by
 obtain⟨q,hq,_⟩:=hr.obj id o ho
 rcases lt_or_ge id h.next with h' | h'
 ·exact h'
 ·rw[hr.fresh id h'] at hq;cases hq
def Ni(o:AO):Prop:=∀cs,o≠.ro cs
structure Ext (σ σ':Sg) (h h':H) (w w':World):Prop where
 le:∀id p,σ id=some p->σ' id=some p
 next:h.next<=h'.next
 size:w.heap.size<=w'.heap.size
 os:w'.os=w.os
 tape:w'.tape=w.tape
 output:w'.output=w.output
 PO:∀id o p,h'.aQ.get id=some o->σ' id=some p->w.heap.size<=p.b\/∃i o' q,h.aQ.get i=some o'/\σ i=some q/\q.b=p.b/\(Ni o->Ni o')
 frame:∀b,b<w.heap.size->(∀id o p,h.aQ.get id=some o->Ni o->σ id=some p->p.b≠b)->w'.heap[b]?=w.heap[b]?
 low:h'.low<=h.low
 same:∀id,id<h'.low->id<h.next->h'.aQ.get id=h.aQ.get id
 lJ:∀id,id<h.next->σ id=none->σ' id=none
 dA:∀id cs f,h'.aQ.get id=some (.cells cs f)->h.next<=f\/∃i cs',h.aQ.get i=some (.cells cs' f)
theorem Ext.refl(σ:Sg)(h:H)(w:World):Ext σ σ h h w w:=
 ⟨λ_ _ h=>h,le_refl _,le_refl _,rfl,rfl,rfl,λid o p ho hp=>.inr ⟨id,o,p,ho,hp,rfl,λh=>h⟩,λ_ _ _=>rfl,le_refl _,λ_ _ _=>rfl,λ_ _ h=>h,λid cs _ ho=>.inr ⟨id,cs,ho⟩⟩
theorem Ext.trans{σ σ' σ'':Sg}{h h' h'':H}{w w' w'':World}(a:Ext σ σ' h h' w w')(b:Ext σ' σ'' h' h'' w' w''):Ext σ σ'' h h'' w w'' where
 le:=λid p hp=>b.le _ _ (a.le _ _ hp)
 next:=le_trans a.next b.next
 size:=le_trans a.size b.size
 os:=b.os.trans a.os
 tape:=b.tape.trans a.tape
 output:=b.output.trans a.output
 PO:=by
  intro id o p ho hp
  rcases b.PO id o p ho hp with h1 | ⟨i,o',q,h1,h2,h3,g3⟩
  ·exact .inl (le_trans a.size h1)
  ·rcases a.PO i o' q h1 h2 with h4 | ⟨j,o'',r,h4,h5,h6,g6⟩
   ·exact .inl (by omega)
   ·exact .inr ⟨j,o'',r,h4,h5,by omega,λh=>g6 (g3 h)⟩
 frame:=by
  intro bk hb hn;rw[b.frame bk (Nat.lt_of_lt_of_le hb a.size),a.frame bk hb hn];intro id o p ho hw hp e
  rcases a.PO id o p ho hp with h1 | ⟨i,o',q,h1,h2,h3,g3⟩
  ·omega
  ·exact hn i o' q h1 (g3 hw) h2 (by omega)
 low:=le_trans b.low a.low
 same:=by
  intro id h1 h2;rw[b.same id h1 (Nat.lt_of_lt_of_le h2 a.next),a.same id (Nat.lt_of_lt_of_le h1 b.low) h2]
 lJ:=λid h1 h2=>b.lJ id (Nat.lt_of_lt_of_le h1 a.next) (a.lJ id h1 h2)
 dA:=by
  intro id cs f ho
  rcases b.dA id cs f ho with h1 | ⟨i,cs',h1⟩
  ·exact .inl (le_trans a.next h1)
  ·exact a.dA i cs' f h1
theorem HR.congr{σ:Sg}{h:H}{w w':World}(hr:HR σ h w)(e:w'.heap=w.heap):HR σ h w':=
 ⟨λid o ho=>by rw[e];exact hr.obj id o ho,hr.fresh,hr.sep,hr.bZ,hr.y8⟩
theorem Ext.of_eq{σ:Sg}{h:H}{w w':World}(e:w'.heap=w.heap)(e1:w'.os=w.os)(e2:w'.tape=w.tape)(e3:w'.output=w.output):Ext σ σ h h w w':=
 ⟨λ_ _ h=>h,le_refl _,by rw[e];exact le_refl _,e1,e2,e3,λid o p ho hp=>.inr ⟨id,o,p,ho,hp,rfl,λh=>h⟩,λ_ _ _=>by rw[e],le_refl _,λ_ _ _=>rfl,λ_ _ h=>h,λid cs _ ho=>.inr ⟨id,cs,ho⟩⟩
theorem gp(b o n:Nat):(⟨b,o,none⟩:Addr).add n=⟨b,o+n,none⟩:=by
 unfold Addr.add;split
 ·rename_i h;simp[h]
 ·rfl
theorem cell_of{w:World}{b o:Nat}{c:Array Value}{e:TypeId}{f:Nat×Nat}(h:w.heap[b]?=some (.cells c e f)):w.cell? ⟨b,o,none⟩=c[o]?:=by
 simp[World.cell?,h]
theorem AI{w:World}{b o:Nat}{c:Array Value}{e:TypeId}(h:w.heap[b]?=some (.cells c e (0,0))):w.frozen? ⟨b,o,none⟩=false:=by
 simp[World.frozen?,h]
theorem HR.cells{σ:Sg}{h:H}{w:World}(hr:HR σ h w){id:Nat}{cs:List AV}{f:Nat}(ho:h.aQ.get id=some (.cells cs f)):
 ∃p c e,σ id=some p/\w.heap[p.b]?=some (.cells c e (0,0))/\p.d+p.r<=c.size/\cs.length<=p.r/\∀(i:Nat) (a:AV),cs[i]?=some a->∃v,c[p.d+i]?=some v/\V σ a v:=by
 obtain⟨p,hp,c,e,h1,h2,h3,h4⟩:=hr.obj id _ ho;exact⟨p,c,e,hp,h1,h2,h3,h4⟩
def OD(o:AO)(cs:List AV):Prop:=(∃f,o=.cells cs f)\/o=.ro cs
theorem HR.row{σ:Sg}{h:H}{w:World}(hr:HR σ h w){id:Nat}{o:AO}{cs:List AV}(ho:h.aQ.get id=some o)(hi:OD o cs):
 ∃p c e f,σ id=some p/\w.heap[p.b]?=some (.cells c e f)/\p.d+p.r<=c.size/\cs.length<=p.r/\∀(i:Nat) (a:AV),cs[i]?=some a->∃v,c[p.d+i]?=some v/\V σ a v:=by
 obtain⟨p,hp,hor⟩:=hr.obj id _ ho
 rcases hi with⟨f,rfl⟩ | rfl
 ·obtain⟨c,e,h1,h2,h3,h4⟩:=hor;exact⟨p,c,e,_,hp,h1,h2,h3,h4⟩
 ·obtain⟨c,e,f,h1,h2,h3,h4⟩:=hor;exact⟨p,c,e,f,hp,h1,h2,h3,h4⟩
theorem H.Lg{h:H}{id off n:Nat}{cs:List AV}(hc:h.chunk id off n=some cs):
 ∃o bs,h.aQ.get id=some o/\OD o bs/\off+n<=bs.length/\cs=(bs.drop off).take n:=by
 unfold H.chunk at hc;split at hc
 ·rename_i bs f ho;obtain⟨h1,h2⟩:=aK hc;simp only[Option.some.injEq] at h2;exact⟨_,bs,ho,.inl ⟨f,rfl⟩,iO h1,h2.symm⟩
 ·rename_i bs ho;obtain⟨h1,h2⟩:=aK hc;simp only[Option.some.injEq] at h2;exact⟨_,bs,ho,.inr rfl,iO h1,h2.symm⟩
 ·simp at hc
theorem HR.chunk{σ:Sg}{h:H}{w:World}(hr:HR σ h w){id off n:Nat}{cs:List AV}{p:rH}(hc:h.chunk id off n=some cs)(hp:σ id=some p):
 ∃vs,VL σ cs vs/\cs.length=n/\∀(j:Nat) (v:Value),vs[j]?=some v->w.cell? ⟨p.b,p.d+off+j,none⟩=some v:=by
 obtain⟨o,bs,ho,hi,hle,rfl⟩:=H.Lg hc;obtain⟨q,c,e,f,hq,h1,h2,h3,h4⟩:=hr.row ho hi;rw[hp] at hq;cases hq
 have hlen:((bs.drop off).take n).length=n:=by simp;omega
 have hsz:∀j,j<n->p.d+(off+j)<c.size:=λj hj=>by omega
 refine⟨(List.range n).map λj=>(c[p.d+(off+j)]?).getD undef,⟨by simp;omega,?_⟩,hlen,?_⟩
 ·intro i a v ha hv
  have hi:i<n:=by
   rcases lt_or_ge i n with h | h
   ·exact h
   ·rw[getElem?_eq_none (by omega)] at ha;simp at ha
  rw[List.getElem?_take,if_pos hi,List.getElem?_drop] at ha;obtain⟨u,hu,hV⟩:=h4 _ _ ha;rw[List.getElem?_map,List.getElem?_range hi] at hv;simp only[map_some,Option.some.injEq] at hv;rw[<-hv,hu];exact hV
 ·intro j v hv
  have hj:j<n:=by
   rcases lt_or_ge j n with h | h
   ·exact h
   ·rw[getElem?_eq_none (by simp;omega)] at hv;simp at hv
  rw[List.getElem?_map,List.getElem?_range hj] at hv;simp only[map_some,Option.some.injEq] at hv;rw[cell_of h1,show p.d+off+j=p.d+(off+j) by omega,Array.getElem?_eq_getElem (hsz j hj)];rw[Array.getElem?_eq_getElem (hsz j hj)] at hv;simpa using hv
theorem nf{P:Program}{w:World}{b o:Nat}{vs:List Value}(h:∀(j:Nat) (v:Value),vs[j]?=some v->w.cell? ⟨b,o+j,none⟩=some v):
 (loadCells ⟨b,o,none⟩ vs.length).run P w=.ok vs.toArray w:=
 run_loadCells_list w _ vs λj v hv=>by rw[gp];exact h j v hv
theorem cY{P:Program}{w:World}{t:TypeId}{i:TypeInfo}(h:P.info? t=some i):(typeInfo t).run P w=.ok i w:=by
 simp[typeInfo,h]
theorem aN{P:Program}{w:World}{t:TypeId}{d:TypeDesc}(h:P.underlying t=some d):(Go.underlying t).run P w=.ok d w:=by
 simp[Go.underlying,h]
theorem bT{P:Program}{w:World}{t n:Nat}(h:cx P t=some n):(sizeOf t).run P w=.ok n w:=by
 unfold cx at h
 cases hi:P.info? t with
 | none=>simp[hi] at h
 | some i=>simp[hi] at h;subst h;simp[sizeOf,cY hi]
theorem l8{P:Program}{w:World}{t:Nat}{b:Bool}(h:pD P t=some b):(isAgg t).run P w=.ok b w:=by
 unfold pD at h
 cases hi:P.underlying t with
 | none=>simp[hi] at h
 | some d=>
  simp only[hi,map_some,Option.some.injEq] at h;subst h;simp only[isAgg,Sem.run_bind,aN hi,Result.andThen_ok];cases d<;>simp
theorem gR{P:Program}{w:World}{σ:Sg}{t:Nat}{z:AV}(h:dm P t=some z):∃v,(zeroValue t).run P w=.ok v w/\V σ z v/\∃i,P.info? t=some i/\i.zero=some v:=by
 unfold dm at h
 cases hi:P.info? t with
 | none=>simp[hi] at h
 | some i=>
  simp only[hi,bind_some] at h
  cases hz:i.zero with
  | none=>simp[hz] at h
  | some v=>
   simp only[hz,bind_some] at h;exact⟨v,by simp[zeroValue,cY hi,hz],K4 _ _ _ h,i,rfl,hz⟩
theorem HR.Ej{P:Program}{σ:Sg}{h:H}{w:World}(hr:HR σ h w){t id off:Nat}{a:AV}{p:rH}(hl:h.load P t id off=some a)(hp:σ id=some p):
 ∃v,(loadVar t ⟨p.b,p.d+off,none⟩).run P w=.ok v w/\V σ a v:=by
 unfold H.load at hl;split at hl
 ·rename_i hag
  cases hn:cx P t with
  | none=>simp[hn] at hl
  | some n=>
   simp only[hn,bind_some] at hl
   cases hc:h.chunk id off n with
   | none=>simp[hc] at hl
   | some cs=>
    simp only[hc,map_some,Option.some.injEq] at hl;subst hl;obtain⟨vs,hvl,hlen,hcell⟩:=hr.chunk hc hp;refine⟨.agg vs.toArray,?_,.Pm hvl⟩
    have hl:vs.length=n:=by rw[<-hvl.1];exact hlen
    simp only[loadVar,Sem.run_bind,l8 hag,Result.andThen_ok,if_true,bT hn];rw[<-hl,nf hcell];simp
 ·rename_i hag;split at hl
  ·rename_i cs f ho;obtain⟨q,c,e,hq,h1,h2,h3,h4⟩:=hr.cells ho;rw[hp] at hq;cases hq;obtain⟨v,hv,hV⟩:=h4 _ _ hl;refine⟨v,?_,hV⟩
   have hcell:w.cell? ⟨p.b,p.d+off,none⟩=some v:=by rw[cell_of h1];exact hv
   simp[loadVar,l8 hag,hcell]
  ·rename_i cs ho;obtain⟨q,c,e,f,hq,h1,h2,h3,h4⟩:=hr.row ho (.inr rfl);rw[hp] at hq;cases hq;obtain⟨v,hv,hV⟩:=h4 _ _ hl;refine⟨v,?_,hV⟩
   have hcell:w.cell? ⟨p.b,p.d+off,none⟩=some v:=by rw[cell_of h1];exact hv
   simp[loadVar,l8 hag,hcell]
  ·simp at hl
 ·simp at hl
theorem iY{P:Program}{σ:Sg}{w:World}{t off:Nat}{cs:List AV}{vs:Array Value}{a:AV}(hvs:VL σ cs vs.toList)(hl:dI P t cs off=some a):
 ∃v,(part t vs off).run P w=.ok v w/\V σ a v:=by
 unfold dI at hl;split at hl
 ·rename_i hag
  cases hn:cx P t with
  | none=>simp[hn] at hl
  | some n=>
   simp only[hn,bind_some] at hl;obtain⟨hle,he⟩:=aK hl;simp only[Option.some.injEq] at he;subst he;refine⟨.agg (vs.extract off (off+n)),?_,.wq ?_⟩
   ·simp[part,l8 hag,bT hn]
   ·have:(vs.extract off (off+n)).toList=(vs.toList.drop off).take n:=by simp
    rw[this];exact(hvs.drop off).take n
 ·rename_i hag;obtain⟨v,hv,hV⟩:=hvs.get hl;refine⟨v,?_,hV⟩
  have hv':vs[off]?=some v:=by simpa using hv
  simp[part,l8 hag,hv']
 ·simp at hl
end Go.Ev
