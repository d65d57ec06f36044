/- A closed call, run by the evaluator; the functions that are served whole. No conditions beyond those that each theorem states. -/
import Derived.Test.YthfdoggncbcmjaaGreatGd
import Derived.Below
import Derived.Lib.Bytealg

set_option linter.unusedSimpArgs false
set_option linter.unusedVariables false
set_option linter.unusedSectionVars false

namespace Go.Ev
open Go.RowKit

theorem Fine.mono {P : Program} {r : Result Next} {R R' : Value → World → Prop} (h : Fine P r R) (hR : ∀ v w, R v w → R' v w) : Fine P r R' := by
  cases r with
  | halt x w => exact h.elim
  | ok x w =>
    cases x with
    | value v => exact hR _ _ h
    | enter f args => exact Calls.mono h fun e w' ⟨v, he, hr⟩ => ⟨v, he, hR _ _ hr⟩
    | round l f tmps a b => exact fun n => RoundIn.mono (h n) fun e w' ⟨v, he, hr⟩ => ⟨v, he, hR _ _ hr⟩
    | _ => exact h.elim

/-- The empty heap. -/
def hz : H := { objs := .nil, fams := .nil, next := 0, low := 0 }

theorem hz_HR (w : World) : HR (fun _ => none) hz w :=
  ⟨fun id o h => by simp [hz, get_nil] at h, fun _ _ => rfl, fun i j o o' p q _ h => by simp [hz, get_nil] at h, fun i cs f h => by simp [hz, get_nil] at h, Nat.le_refl _⟩

theorem ext_below {σ' : Sg} {h' : H} {w w' : World} (hE : Ext (fun _ => none) σ' hz h' w w') : Below w.heap.size w w' :=
  ⟨hE.os, hE.tape, hE.output, hE.size, fun k hk => hE.frame k hk fun id o p ho => by simp [hz, get_nil] at ho⟩

/-- What was there stays as it was. -/
theorem below_keep {σ : Sg} {h : H} {w w' : World} (hr : HR σ h w) (hb : Below w.heap.size w w') : HR σ h w' ∧ Ext σ σ h h w w' := by
  refine ⟨⟨fun id o ho => ?_, hr.fresh, hr.sep, hr.fam, hr.lown⟩, ⟨fun _ _ h => h, Nat.le_refl _, hb.size, hb.os, hb.tape, hb.output, fun id o p ho hp => .inr ⟨id, o, p, ho, hp, rfl, fun h => h⟩, fun b hlt _ => hb.block b hlt, Nat.le_refl _, fun _ _ _ => rfl, fun _ _ h => h, fun id cs _ ho => .inr ⟨id, cs, ho⟩⟩⟩
  obtain ⟨p, hp, hor⟩ := hr.obj id o ho
  exact ⟨p, hp, by rw [hb.block _ (hr.lt ho hp)]; exact hor⟩

/-- One served function. -/
def XOne (P : Program) (f : FuncId) (k : XK) : Prop := ∀ args h a h', xA k args h = some (a, h') → ∀ σ w (args' : Array Value), VL σ args args'.toList → HR σ h w → Fine P ((callFunc f args').run P w) (Got σ h w [(a, h')])

theorem ExOK.nil {P : Program} : ExOK P [] := fun g k args h a h' hf => by simp [EX.find] at hf

theorem ExOK.cons {P : Program} {f : FuncId} {k : XK} {ex : EX} (h : XOne P f k) (hs : ExOK P ex) : ExOK P ((f, k) :: ex) := by
  intro g k' args hh a h' hf hx
  simp only [EX.find] at hf
  cases hb : Nat.beq g f
  · rw [hb, cond_ff] at hf; exact hs g k' args hh a h' hf hx
  · rw [hb, cond_tt] at hf
    simp only [Option.some.injEq] at hf
    subst hf
    have := beqN hb; subst this
    exact h args hh a h' hx

theorem args1 {σ : Sg} {a : AV} {args' : Array Value} (h : VL σ [a] args'.toList) : ∃ x, args' = #[x] ∧ V σ a x := by
  obtain ⟨x, l, e, h1, h2⟩ := h.inv_cons
  have := h2.inv_nil; subst this
  exact ⟨x, Array.ext' e, h1⟩

theorem args2 {σ : Sg} {a b : AV} {args' : Array Value} (h : VL σ [a, b] args'.toList) : ∃ x y, args' = #[x, y] ∧ V σ a x ∧ V σ b y := by
  obtain ⟨x, l, e, h1, h2⟩ := h.inv_cons
  obtain ⟨y, l, rfl, h3, h4⟩ := h2.inv_cons
  have := h4.inv_nil; subst this
  exact ⟨x, y, Array.ext' e, h1, h3⟩

theorem xA_cmp {args : List AV} {h : H} {r : AV × H} (hx : xA .cmp args h = some r) : ∃ a b, args = [.str a, .str b] ∧ r = (.int .i64 (cond (ltL a b) (-1) (cond (eqL a b) 0 1)), h) := by
  unfold xA at hx
  split at hx <;> first
    | (simp only [Option.some.injEq] at hx; rename_i e1 a b; exact ⟨_, _, rfl, hx.symm⟩)
    | simp_all

theorem cmp_nat : ∀ (a b : List UInt8), Lib.compareBytes a b = cond (ltL (a.map (·.toNat)) (b.map (·.toNat))) (-1) (cond (eqL (a.map (·.toNat)) (b.map (·.toNat))) 0 1)
  | [], [] => rfl
  | [], _ :: _ => rfl
  | _ :: _, [] => rfl
  | a :: as, b :: bs => by
    have ih := cmp_nat as bs
    simp only [Lib.compareBytes, List.map_cons, ltL, eqL]
    by_cases h1 : a < b
    · rw [if_pos h1]
      have : Nat.blt a.toNat b.toNat = true := Nat.ble_eq_true_of_le (UInt8.lt_iff_toNat_lt.1 h1)
      rw [this]; rfl
    · rw [if_neg h1]
      have h1' : ¬ a.toNat < b.toNat := fun h => h1 (UInt8.lt_iff_toNat_lt.2 h)
      have e1 : Nat.blt a.toNat b.toNat = false := by
        cases hb : Nat.blt a.toNat b.toNat
        · rfl
        · exact absurd (bltN hb) h1'
      rw [e1, Bool.false_or]
      by_cases h2 : b < a
      · rw [if_pos h2]
        have h2' := UInt8.lt_iff_toNat_lt.1 h2
        have e2 : Nat.beq a.toNat b.toNat = false := by
          cases hb : Nat.beq a.toNat b.toNat
          · rfl
          · have := beqN hb; omega
        rw [e2]; rfl
      · rw [if_neg h2]
        have h2' : ¬ b.toNat < a.toNat := fun h => h2 (UInt8.lt_iff_toNat_lt.2 h)
        have e2 : Nat.beq a.toNat b.toNat = true := Nbeq (by omega)
        rw [e2, Bool.true_and, Bool.true_and]
        exact ih

theorem XOne.cmp {P : Program} {f : FuncId} (hrun : ∀ (x y : ByteArray) (w : World), (callFunc f #[.string x, .string y]).run P w = .ok (.value (.int .i64 (Lib.compareBytes x.data.toList y.data.toList))) w) : XOne P f .cmp := by
  intro args h a h' hx σ w args' hv hr
  obtain ⟨s, t, rfl, e⟩ := xA_cmp hx
  cases e
  obtain ⟨x, y, rfl, h1, h2⟩ := args2 hv
  cases h1 with
  | @str _ sx hs =>
    cases h2 with
    | @str _ sy ht =>
      rw [hrun sx sy w, cmp_nat, hs, ht]
      exact ⟨_, _, List.mem_singleton.2 rfl, σ, .int _ _, hr, .refl _ _ _⟩

theorem XOne.clone {P : Program} {f : FuncId} (hrun : ∀ (t : TypeId) (r : Nat) (es : Array MapEntry) (ck : Nat) (w : World), w.heap[r]? = some (.map es ck) → (callFunc f #[.iface t (.map (some r))]).run P w = .ok (.value (.iface t (.map (some w.heap.size)))) (w.alloc (.map es ck))) : XOne P f .clone := by
  intro args h a h' hx σ w args' hv hr
  have hshape : ∃ t id es c, args = [.iface t (.map (some id))] ∧ h.mapOf id = some (es, c) ∧ a = .iface t (.map (some h.next)) ∧ h' = { h.lay h.next (.map es c) with next := h.next + 1 } := by
    unfold xA at hx
    split at hx <;> first
      | (obtain ⟨⟨es, c⟩, h1, h2⟩ := map_some' hx; cases h2; exact ⟨_, _, _, _, rfl, h1, rfl, rfl⟩)
      | simp_all
  obtain ⟨t, id, es, c, rfl, hm, rfl, rfl⟩ := hshape
  obtain ⟨x, rfl, h1⟩ := args1 hv
  cases h1 with
  | iface h1 =>
    cases h1 with
    | @map _ p hp =>
      obtain ⟨ho, es', hw, hE⟩ := hr.map hm hp
      rw [hrun t p.b es' c w hw]
      obtain ⟨k1, k2⟩ := hr.new (r := 0) (o := .map es c) (ob := .map es' c) (w' := w.alloc (.map es' c)) (fun cs f hf => by cases hf)
        ⟨es', rfl, by have := hE.1; simpa using this, fun i e m he hm => by
          obtain ⟨a1, a2, a3⟩ := hE.2 i e m he (by simpa using hm)
          exact ⟨a1.mono (up_le (hr.fresh _ (Nat.le_refl _))), a2.mono (up_le (hr.fresh _ (Nat.le_refl _))), a3⟩⟩ rfl rfl rfl rfl
      exact ⟨_, _, List.mem_singleton.2 rfl, _, .iface (.map (p := ⟨w.heap.size, 0, 0⟩) (up_same _ _ _)), k1, k2⟩

/-- From a contract that keeps what was there. -/
theorem fine_of_calls {P : Program} (hng : NoGo P) {f : FuncId} {fn : Func} (hf : P.funcs[f]? = some fn) (hb : fn.body.isSome = true) {args' : Array Value} {w : World} {σ : Sg} {h : H} {a : AV} {v : Value} (hr : HR σ h w) (hV : V σ a v)
    (hc : Calls P f args' w fun e w' => e = .returned v ∧ Below w.heap.size w w') : Fine P ((callFunc f args').run P w) (Got σ h w [(a, h)]) := by
  rw [callFunc_enter hng hf hb]
  refine Calls.mono hc fun e w' ⟨he, hb⟩ => ⟨v, he, a, h, List.mem_singleton.2 rfl, σ, hV, ?_⟩
  exact below_keep hr hb

theorem XOne.name {P : Program} (hng : NoGo P) {f : FuncId} {fn : Func} (hf : P.funcs[f]? = some fn) (hb : fn.body.isSome = true)
    (hc : ∀ (s : ByteArray) (w : World), s.size ≤ 1000000 → Calls P f #[.string s] w fun e w' => e = .returned (.bool (nameN (bytesN s))) ∧ Below w.heap.size w w') : XOne P f .name := by
  intro args h a h' hx σ w args' hv hr
  have hshape : ∃ s, args = [.str s] ∧ Nat.ble s.length 1000000 = true ∧ a = .bool (nameN s) ∧ h' = h := by
    unfold xA at hx
    split at hx <;> first
      | (obtain ⟨h1, h2⟩ := cond_some hx; cases h2; exact ⟨_, rfl, h1, rfl, rfl⟩)
      | simp_all
  obtain ⟨s, rfl, hlen, rfl, rfl⟩ := hshape
  obtain ⟨x, rfl, h1⟩ := args1 hv
  cases h1 with
  | @str _ sx hs =>
    have hl := bleN hlen
    rw [← hs] at hl
    have hsz : (sx.data.toList.map (·.toNat)).length = sx.size := by rw [List.length_map, Array.length_toList]; rfl
    have := hc sx w (hsz ▸ hl)
    refine fine_of_calls hng hf hb hr (v := .bool (nameN (bytesN sx))) ?_ this
    rw [← hs]; exact .bool _

theorem XOne.sort1 {P : Program} (hng : NoGo P) {f : FuncId} {fn : Func} (hf : P.funcs[f]? = some fn) (hb : fn.body.isSome = true) {ts : List TypeId}
    (hc : ∀ t ∈ ts, ∀ (o : Option Addr) (l c : Nat) (lf : Fn) (la lb : Array Value) (w : World), l ≤ 1 → l ≤ c → Calls P f #[.iface t (.slice o l c), .func lf la lb] w fun e w' => e = .returned (.tuple #[]) ∧ Below w.heap.size w w') : XOne P f (.sort1 ts) := by
  intro args h a h' hx σ w args' hv hr
  have hshape : ∃ t o n es cap g gs gc, args = [.iface t (.slice o n es cap), .fn g gs gc] ∧ (Nat.ble n 1 && ts.any (Nat.beq t)) = true ∧ a = .tup [] ∧ h' = h := by
    unfold xA at hx
    split at hx <;> first
      | (obtain ⟨h1, h2⟩ := cond_some hx; cases h2; rename_i heq; cases heq; exact ⟨_, _, _, _, _, _, _, _, rfl, h1, rfl, rfl⟩)
      | (obtain ⟨h1, h2⟩ := cond_some hx; cases h2; exact ⟨_, _, _, _, _, _, _, _, rfl, h1, rfl, rfl⟩)
      | simp_all
  obtain ⟨t, o, n, es, cap, g, gs, gc, rfl, hn, rfl, rfl⟩ := hshape
  rw [Bool.and_eq_true] at hn
  obtain ⟨hn, ht⟩ := hn
  obtain ⟨t', ht', hte⟩ := List.any_eq_true.1 ht
  have := beqN hte
  subst this
  obtain ⟨x, y, rfl, h1, h2⟩ := args2 hv
  have hn := bleN hn
  have hy : ∃ lf la lb, y = .func lf la lb := by cases h2 <;> exact ⟨_, _, _, rfl⟩
  obtain ⟨lf, la, lb, rfl⟩ := hy
  cases h1 with
  | iface h1 =>
    have hU : V σ (.tup []) (.tuple #[]) := .tup rfl (fun i a v hh _ => by simp at hh)
    cases h1 with
    | sliceN hl => exact fine_of_calls hng hf hb hr hU (hc t ht' none 0 0 lf la lb w (by omega) (by omega))
    | slice e hl hrr hcc ha => exact fine_of_calls hng hf hb hr hU (hc t ht' _ n _ lf la lb w (by omega) hl)

/-- What the evaluator finds for a closed call. -/
def ends (r : R (AV × H)) (v : AV) : Bool := match r with
  | some l => l.all fun x => eqTop 6 v x.1
  | none => false

theorem ends_spec {r : R (AV × H)} {v : AV} (h : ends r v = true) : ∃ l, r = some l ∧ ∀ x ∈ l, x.1 = v := by
  unfold ends at h
  split at h
  · rename_i l
    exact ⟨l, rfl, fun x hx => (eqTop_eq _ _ _ (List.all_eq_true.1 h x hx)).symm⟩
  · cases h

theorem closed_run {P : Program} (hng : NoGo P) {ex : EX} (hex : ExOK P ex) {fuel d : Nat} {f : FuncId} {fn : Func} (hf : P.funcs[f]? = some fn) (hb : fn.body.isSome = true) {v : AV} (hp : plainA 4 v = true) (h : ends (evV P ex fuel d (.func f) [] hz) v = true) (w : World) :
    Calls P f #[] w fun e w' => ∃ x, e = .returned x ∧ (∀ σ : Sg, V σ v x) ∧ Below w.heap.size w w' := by
  obtain ⟨l, hl, hall⟩ := ends_spec h
  have hfine := (evV_ok hng (drawOk_all P) hex fuel d).func f [] hz l hl (fun _ => none) w #[] (by simpa using VL.nil) (hz_HR w)
  rw [callFunc_enter hng hf hb] at hfine
  refine Calls.mono hfine fun e w' ⟨x, he, a, h', hm, σ', hV, hr', hE⟩ => ⟨x, he, fun σ => ?_, ext_below hE⟩
  have : a = v := hall _ hm
  subst this
  exact plain_V 4 a hp σ' σ x hV

theorem closed_true {P : Program} (hng : NoGo P) {ex : EX} (hex : ExOK P ex) {fuel d : Nat} {f : FuncId} {fn : Func} (hf : P.funcs[f]? = some fn) (hb : fn.body.isSome = true) (h : ends (evV P ex fuel d (.func f) [] hz) (.bool true) = true) (w : World) :
    Calls P f #[] w fun e w' => e = .returned (.bool true) ∧ Below w.heap.size w w' :=
  Calls.mono (closed_run hng hex hf hb rfl h w) fun e w' ⟨x, he, hV, hb⟩ => by
    have := hV (fun _ => none)
    cases this
    exact ⟨he, hb⟩

theorem XOne.const {P : Program} (hng : NoGo P) {ex : EX} (hex : ExOK P ex) {fuel d : Nat} {f : FuncId} {fn : Func} (hf : P.funcs[f]? = some fn) (hb : fn.body.isSome = true) {v : AV} (hp : plainA 4 v = true) (h : ends (evV P ex fuel d (.func f) [] hz) v = true) : XOne P f (.const v) := by
  intro args hh a h' hx σ w args' hv hr
  have hshape : args = [] ∧ a = v ∧ h' = hh := by
    unfold xA at hx
    split at hx <;> first
      | (simp only [Option.some.injEq, Prod.mk.injEq] at hx; exact ⟨rfl, by simp_all, hx.2.symm⟩)
      | simp_all
  obtain ⟨rfl, rfl, rfl⟩ := hshape
  have : args' = #[] := Array.ext' hv.inv_nil
  subst this
  rw [callFunc_enter hng hf hb]
  refine Calls.mono (closed_run hng hex hf hb hp h w) fun e w' ⟨x, he, hV, hbb⟩ => ⟨x, he, _, _, List.mem_singleton.2 rfl, σ, hV σ, below_keep hr hbb⟩

end Go.Ev

/- The evaluator once more, in a form that the kernel runs with less work. No conditions beyond those that each theorem states. -/
namespace Go.Ev
noncomputable section

def rv (h : H) (r : Option AV) : R (Option AV × H) := r.map fun x => [(some x, h)]
def rvh (r : Option (AV × H)) : R (Option AV × H) := r.map fun x => [(some x.1, x.2)]
def ru (r : Option H) : R (Option AV × H) := r.map fun x => [(none, x)]

abbrev Arm := Program → Tr AV → H → R (Option AV × H)

def aNone : Arm := fun _ _ _ => none
def aMove (x : Operand) : Arm := fun _ t h => rv h (ev t x)
def aPick (c a b : Operand) : Arm := fun _ t h => (ev t a).bind fun a => (ev t b).bind fun b => match ev t c with
    | some (.bool true) => rv h (some a)
    | some (.bool false) => rv h (some b)
    | _ => none
def aLay (o : Op) : Arm := fun P t h => rvh ((allocA P t o h.next).map fun (v, ob) => (v, { h.lay h.next ob with next := h.next + 1 }))
def aBuild (tt : TypeId) (ps : Array (Nat × Operand)) : Arm := fun P t h => rv h ((partsA t ps.toList).bind fun ps => buildA P tt ps)
def aLoad (tt : TypeId) (a : Operand) : Arm := fun P t h => match ev t a with
    | some (.ptr (some (id, off))) => rv h (h.load P tt id off)
    | _ => none
def aStore (tt : TypeId) (a x : Operand) : Arm := fun P t h => match ev t a, ev t x with
    | some (.ptr (some (id, off))), some x => ru (h.storeVar P tt id off x)
    | _, _ => none
def aNil (x : Operand) : Arm := fun P t h => rv h ((ev t x).bind (nilCheckA P))
def aBin (op : BinOp) (xt : TypeId) (x y : Operand) (_ : TypeId) : Arm := fun P t h => rv h ((ev t x).bind fun x => (ev t y).bind fun y => binA P op xt x y)
def aUn (op : UnOp) (_ : TypeId) (x : Operand) : Arm := fun _ t h => rv h ((ev t x).bind (unA op))
def aConv (s d : TypeId) (x : Operand) : Arm := fun P t h => rv h ((ev t x).bind (convA P s d))
def aIface (xt : TypeId) (x : Operand) : Arm := fun P t h => match P.underlying xt with
    | some (.interface _) => none
    | some _ => rv h ((ev t x).map fun x => .iface xt x)
    | none => none
def aFunc (f : Fn) (first cap : Array Operand) : Arm := fun _ t h => match f with
    | .yield _ => none
    | f => rv h ((evs t first.toList).bind fun a => (evs t cap.toList).map fun b => .fn f a b)
def aSlice (tt : TypeId) (x : Operand) (lo hi mx : Option Operand) : Arm := fun P t h => rv h ((ev t x).bind fun x => (evo t lo).bind fun lo => (evo t hi).bind fun hi => (evo t mx).bind fun mx => sliceA P h tt x lo hi mx)
def aFAddr (s : TypeId) (x : Operand) (f : Nat) : Arm := fun P t h => rv h ((ev t x).bind fun x => fieldAddrA P s x f)
def aField (s : TypeId) (x : Operand) (f : Nat) : Arm := fun P t h => rv h ((ev t x).bind fun x => fieldA P s x f)
def aIAddr (tt : TypeId) (x i : Operand) : Arm := fun P t h => rv h ((ev t x).bind fun x => (ev t i).bind fun i => indexAddrA P tt x i)
def aIndex (tt : TypeId) (x i : Operand) : Arm := fun P t h => rv h ((ev t x).bind fun x => (ev t i).bind fun i => indexA P tt x i)
def aLookup (tt : TypeId) (x k : Operand) (ok : Bool) : Arm := fun P t h => rv h ((ev t x).bind fun x => (ev t k).bind fun k => lookupA P h tt x k ok)
def aUpd (tt : TypeId) (m k x : Operand) : Arm := fun P t h => ru ((ev t m).bind fun m => (ev t k).bind fun k => (ev t x).bind fun x => mapUpdateA P h tt m k x)
def aEntry (tt : TypeId) (m k : Operand) : Arm := fun P t h => rvh ((ev t m).bind fun m => (ev t k).bind fun k => mapEntryA P h tt m k)
def aEStore (_ : TypeId) (m s x : Operand) : Arm := fun _ t h => ru ((ev t m).bind fun m => (ev t s).bind fun s => (ev t x).bind fun x => entryStoreA h m s x)
def aRange (tt : TypeId) (x : Operand) : Arm := fun P t h => rvh ((ev t x).bind fun x => rangeA P h tt x)
def aNext (it : Operand) (isS : Bool) : Arm := fun _ t h => match ev t it with
    | some it => (nextA h it isS).map fun l => l.map fun x => (some x.1, x.2)
    | none => none
def aEnt (it : Operand) : Arm := fun _ t h => rv h ((ev t it).bind fun it => entryA h it)
def aExtract (x : Operand) (i : Nat) : Arm := fun _ t h => match ev t x with
    | some (.tup vs) => rv h vs[i]?
    | _ => none
def aAssert (x : Operand) (_ asserted : TypeId) (ok : Bool) : Arm := fun P t h => match P.underlying asserted with
    | some (.interface _) => none
    | some _ => match ev t x with
      | some (.iface d y) => _root_.cond (Nat.beq d asserted) (rv h (some (_root_.cond ok (.tup [y, .bool true]) y))) none
      | _ => none
    | none => none
def aCall (c : Call) : Arm := fun P t h => match c with
    | { callee := .builtin b, args, argTypes } => rvh ((evs t args.toList).bind fun xs => builtinA P h b argTypes.toList xs)
    | _ => none

def opF (P : Program) (t : Tr AV) (h : H) (o : Op) : R (Option AV × H) :=
  Op.rec (motive := fun _ => Arm) aMove aMove aPick (fun e => aLay (.alloc e)) (fun e v => aLay (.box e v)) aBuild (fun a b c => aLay (.buildSlice a b c)) aUpd aLoad aStore (fun _ => aNone) (fun _ => aNone) aNil aBin aUn aConv (fun _ _ => aNone)
    aIface aFunc (fun a b => aLay (.makeMap a b)) (fun _ _ => aNone) (fun a b c => aLay (.makeSlice a b c)) aSlice aFAddr aField aIAddr aIndex aLookup aUpd aEntry aEStore aRange aNext aEnt aAssert aExtract aCall (fun _ => aNone) (fun _ => aNone) (fun _ => aNone) (fun _ _ => aNone) (fun _ _ _ => aNone) (fun _ _ => aNone) o P t h

theorem opF_eq (P : Program) (t : Tr AV) (h : H) (o : Op) : opF P t h o = opA P t h o := by
  cases o with
  | call c =>
    obtain ⟨callee, args, ats⟩ := c
    cases callee <;> rfl
  | _ => rfl

def joinF {α β : Type} (f : α → R β) (l : List α) : R β :=
  List.rec (motive := fun _ => R β) (some []) (fun x xs _ => List.rec (motive := fun _ => R β) (f x) (fun y ys _ => joinR f (x :: y :: ys)) xs) l

theorem joinF_eq {α β : Type} (f : α → R β) (l : List α) : joinF f l = joinR f l := by
  cases l with
  | nil => rfl
  | cons x xs => cases xs <;> rfl

def bindF {α β : Type} (r : R α) (f : α → R β) : R β := Option.rec (motive := fun _ => R β) none (fun l => joinF f l) r

theorem bindF_eq {α β : Type} (r : R α) (f : α → R β) : bindF r f = bindR r f := by
  cases r with
  | none => rfl
  | some l => exact joinF_eq f l

def plainCall (c : Call) : Bool := match c.callee with
  | .builtin _ => true
  | _ => false

def plainOp (o : Op) : Bool :=
  Op.rec (motive := fun _ => Bool) (fun _ => true) (fun _ => true) (fun _ _ _ => true) (fun _ => true) (fun _ _ => true) (fun _ _ => true) (fun _ _ _ => true) (fun _ _ _ _ => true) (fun _ _ => true) (fun _ _ _ => true) (fun _ => true) (fun _ => true) (fun _ => true)
    (fun _ _ _ _ _ => true) (fun _ _ _ => true) (fun _ _ _ => true) (fun _ _ => true) (fun _ _ => true) (fun _ _ _ => true) (fun _ _ => true) (fun _ _ => true) (fun _ _ _ => true) (fun _ _ _ _ _ => true) (fun _ _ _ => true) (fun _ _ _ => true) (fun _ _ _ => true)
    (fun _ _ _ => true) (fun _ _ _ _ => true) (fun _ _ _ _ => true) (fun _ _ _ => true) (fun _ _ _ _ => true) (fun _ _ => true) (fun _ _ => true) (fun _ => true) (fun _ _ _ _ => true) (fun _ _ => true) plainCall (fun _ => false) (fun _ => false) (fun _ => false) (fun _ _ => false) (fun _ _ _ => false) (fun _ _ => false) o

/-- Where a value goes. -/
def putF (dst : Option Tmp) (st : St) (r : Option AV × H) : R St := match r with
  | (v, h) => ((st.setH h).put dst (match v with | some v => v | none => und)).map fun s => [s]

def oneF (P : Program) (cv : CV) (ro : Option Nat) (o : Oper) (st : St) : R St :=
  Bool.rec (motive := fun _ => R St) (oneA P cv ro o st) (bindF (opF P st.t st.h o.op) (putF o.dst st)) (plainOp o.op)

theorem oneF_eq (P : Program) (cv : CV) (ro : Option Nat) (o : Oper) (st : St) : oneF P cv ro o st = oneA P cv ro o st := by
  unfold oneF
  rw [bindF_eq, opF_eq]
  obtain ⟨dst, op, ty, pos, after, guard⟩ := o
  cases op with
  | call c =>
    obtain ⟨callee, args, ats⟩ := c
    cases callee <;> rfl
  | _ => rfl

def guardF (P : Program) (cv : CV) (ro : Option Nat) (all : List Oper) (o : Oper) (st : St) (k : St → R St) : R St := match wantedA all st.t st.n o with
  | some true => bindF (oneF P cv ro o st) k
  | some false => match st.put o.dst und with
    | some st => k st
    | none => none
  | none => none

def opsF (P : Program) (cv : CV) (ro : Option Nat) (all l : List Oper) : St → R St :=
  List.rec (motive := fun _ => St → R St) (fun st => some [st]) (fun o _ ih st => Option.rec (motive := fun _ => R St) (bindF (oneF P cv ro o st) ih) (fun _ => guardF P cv ro all o st ih) o.guard) l

theorem opsF_eq (P : Program) (cv : CV) (ro : Option Nat) (all : List Oper) : ∀ (l : List Oper) (st : St), opsF P cv ro all l st = opsA P cv ro all l st
  | [], st => rfl
  | o :: rest, st => by
    have ih : opsF P cv ro all rest = opsA P cv ro all rest := funext fun st => opsF_eq P cv ro all rest st
    have e : opsF P cv ro all (o :: rest) st = Option.rec (motive := fun _ => R St) (bindF (oneF P cv ro o st) (opsF P cv ro all rest)) (fun _ => guardF P cv ro all o st (opsF P cv ro all rest)) o.guard := rfl
    rw [e, ih]
    cases hg : o.guard with
    | none =>
      simp only [opsA, wantedA, hg, bindF_eq, oneF_eq]
    | some g =>
      simp only [opsA, guardF, bindF_eq, oneF_eq]
      cases wantedA all st.t st.n o with
      | none => rfl
      | some b => cases b <;> rfl

/-! ### Draw regions -/

def drawStepF (P : Program) (cv : CV) (ro : Option Nat) (base : Nat) (all : List Oper) (ms : List Nat) (n : Nat) (i : Nat) (o : Oper) (d : Dr) : Option Dr :=
  let r := restr d.t (looksA all o)
  match wantedA all r n o with
  | none => none
  | some false => d.setD n o.dst und
  | some true =>
    cond (isEff o.op)
      (match oneF P cv ro o { t := r, n, h := addX base (ms.getD i 0) d.xs d.c, ds := [] } with
       | some [st] => (d.setD n o.dst (match o.dst with | some k => (st.t.get k).getD und | none => und)).map fun d =>
          { d with c := st.h, xs := d.xs.filter (fun x => !(hasBit (ms.getD i 0) x.1)), m := Nat.lor d.m (ms.getD i 0), cs := d.cs ++ [(i, Nat.lor d.m (ms.getD i 0), st.h)] }
       | _ => none)
      (cond (isAlloc o.op)
        (match allocA P r o.op (base + i) with
         | some (v, ob) => (d.setD n o.dst v).map fun d => { d with xs := d.xs ++ [(i, ob)], all := d.all ++ [(i, ob)] }
         | none => none)
        (match opF P r (addX base (ms.getD i 0) d.xs d.c) o.op with
         | some [(some v, _)] => (d.setD n o.dst v).map fun d => { d with reads := d.reads ++ [(i, r, o.op, v)] }
         | _ => none))

theorem drawStepF_eq : drawStepF = drawStep := by
  funext P cv ro base all ms n i o d
  unfold drawStepF drawStep
  simp only [oneF_eq, opF_eq]
  rfl

def drawRunF (P : Program) (cv : CV) (ro : Option Nat) (base : Nat) (all : List Oper) (ms : List Nat) (n : Nat) (l : List (Nat × Oper)) : Dr → Option Dr :=
  List.rec (motive := fun _ => Dr → Option Dr) (fun d => some d) (fun x _ ih d => match drawStepF P cv ro base all ms n x.1 x.2 d with
    | some d => ih d
    | none => none) l

theorem drawRunF_eq (P : Program) (cv : CV) (ro : Option Nat) (base : Nat) (all : List Oper) (ms : List Nat) (n : Nat) : ∀ (l : List (Nat × Oper)) (d : Dr), drawRunF P cv ro base all ms n l d = drawRun P cv ro base all ms n l d
  | [], d => rfl
  | (i, o) :: rest, d => by
    have e : drawRunF P cv ro base all ms n ((i, o) :: rest) d = match drawStepF P cv ro base all ms n i o d with
      | some d => drawRunF P cv ro base all ms n rest d
      | none => none := rfl
    rw [e, drawRun, drawStepF_eq]
    cases drawStep P cv ro base all ms n i o d with
    | none => rfl
    | some d => exact drawRunF_eq P cv ro base all ms n rest d

def readOkF (P : Program) (base : Nat) (ms : List Nat) (all : List (Nat × AO)) (i : Nat) (t : Tr AV) (op : Op) (v : AV) : List Nat → Nat → H → List (Nat × Nat × H) → Bool
  | done, m, c, later =>
    (!(mayRun ms i done (later.map (·.1))) ||
      (match opF P t (addX base (ms.getD i 0) (all.filter fun x => !(hasBit m x.1)) c) op with
       | some [(some v', _)] => eqTop 6 v v'
       | _ => false)) &&
    (match later with
     | [] => true
     | (e, m', c') :: later => readOkF P base ms all i t op v (e :: done) m' c' later)

theorem readOkF_eq (P : Program) (base : Nat) (ms : List Nat) (all : List (Nat × AO)) (i : Nat) (t : Tr AV) (op : Op) (v : AV) : ∀ (later : List (Nat × Nat × H)) (done : List Nat) (m : Nat) (c : H), readOkF P base ms all i t op v done m c later = readOk P base ms all i t op v done m c later
  | [], done, m, c => by unfold readOkF readOk; rw [opF_eq]; rfl
  | (e, m', c') :: later, done, m, c => by
    unfold readOkF readOk
    rw [opF_eq]
    simp only
    rw [readOkF_eq P base ms all i t op v later]
    rfl

def drawF (P : Program) (cv : CV) (ro : Option Nat) (ops : List Oper) (st : St) : Option St :=
  let base := st.h.next
  let h0 : H := { st.h with next := base + ops.length }
  let ms := masks ops []
  cond (drawOk ops && P.follows .mixedOrders)
    (match drawRunF P cv ro base ops ms st.n (numbered 0 ops) { t := st.t, c := h0, xs := [], all := [], m := 0, cs := [], reads := [] } with
     | some d => cond (d.reads.all fun (i, t, op, v) => readOkF P base ms d.all i t op v [] 0 h0 d.cs)
        (some { t := d.t, n := st.n, h := addX base (2 ^ ops.length - 1) d.xs d.c, ds := st.ds }) none
     | none => none) none

theorem drawF_eq (P : Program) (cv : CV) (ro : Option Nat) (ops : List Oper) (st : St) : drawF P cv ro ops st = drawA P cv ro ops st := by
  unfold drawF drawA
  simp only [drawRunF_eq, readOkF_eq]
  rfl

/-! ### Code -/

abbrev Go' := Code → St → R (Ex × St)

def cSkip : Go' → St → R (Ex × St) := fun _ st => some [(.normal, st)]
def toNormal (st : St) : R (Ex × St) := some [(.normal, st)]
def cRegion (P : Program) (cv : CV) (ro : Option Nat) (_ : Nat) (ops : Array Oper) (draw : Bool) : Go' → St → R (Ex × St) := fun _ st =>
  Bool.rec (motive := fun _ => R (Ex × St)) (bindF (opsF P cv ro ops.toList ops.toList st) toNormal) ((drawF P cv ro ops.toList st).map fun st => [(.normal, st)]) draw
def seqF (ih : Go') (b : Code) (x : Ex × St) : R (Ex × St) := match x with
  | (e, st) => match e with
    | .normal => ih b st
    | e => some [(e, st)]
def cSeq (a b : Code) : Go' → St → R (Ex × St) := fun ih st => bindF (ih a st) (seqF ih b)
def cCond (c : Operand) (a b : Code) : Go' → St → R (Ex × St) := fun ih st => match ev st.t c with
  | some (.bool true) => ih a st
  | some (.bool false) => ih b st
  | _ => none
def blockF (id : Nat) (x : Ex × St) : R (Ex × St) := match x with
  | (e, st) => match e with
    | .exit id' => cond (Nat.beq id' id) (one (.normal, st)) (one (.exit id', st))
    | e => one (e, st)
def cBlock (id : Nat) (b : Code) : Go' → St → R (Ex × St) := fun ih st => bindF (ih b st) (blockF id)
def cLoop (b : Code) : Go' → St → R (Ex × St) := fun ih st => bindF (ih b st) (seqF ih (.loop b))
def cExit (id : Nat) : Go' → St → R (Ex × St) := fun _ st => one (.exit id, st)
def cGoto (id : Nat) : Go' → St → R (Ex × St) := fun _ st => one (.goto id, st)
def cRet : Go' → St → R (Ex × St) := fun _ st => one (.ret, st)
def scopeF (x : Ex × St) : R (Ex × St) := match x with
  | (e, st) => match e with
    | .goto _ => none
    | e => one (e, st)
def cScope (b : Code) : Go' → St → R (Ex × St) := fun ih st => bindF (ih b st) scopeF
def cRefuse : Go' → St → R (Ex × St) := fun _ _ => none
def cFunc (P : Program) (cv : CV) (ro : Option Nat) (g : Operand) (ps : Array Tmp) (assign body : Code) : Go' → St → R (Ex × St) := fun ih st => match ev st.t g with
      | some (.fn (.func f) first cap) => match cond ((P.funcs[f]?).bind (·.body)).isSome (enterA ro ps assign body st) none with
        | some (id, st) => bindR (cv (.func f) (first ++ [.fn (.yield id) [] []] ++ cap) st.h) fun (_, h) => match h.loopOf id with
          | some (ls, p, t, m, ps, a, b, d) => match ls with
            | .busy => none
            | _ =>
              let st : St := { st with h := h.set id (.loop .exhausted p t m ps a b d) }
              match p with
              | none => one (.normal, st)
              | some c => ih c st
          | none => none
        | none => none
      | _ => none

def evCF (P : Program) (cv : CV) (ro : Option Nat) (fuel : Nat) : Go' :=
  Nat.rec (motive := fun _ => Go') (fun _ _ => none) (fun _ ih c st =>
    Code.rec (motive := fun _ => Go' → St → R (Ex × St)) cSkip (cRegion P cv ro) (fun a b _ _ => cSeq a b) (fun c a b _ _ => cCond c a b) (fun id b _ => cBlock id b) (fun b _ => cLoop b)
      (fun g ps a b _ _ => cFunc P cv ro g ps a b) cExit (fun b _ => cScope b) (fun _ => cSkip) cGoto cRet (fun _ => cRefuse) c ih st) fuel

theorem evCF_eq (P : Program) (cv : CV) (ro : Option Nat) : ∀ (fuel : Nat) (c : Code) (st : St), evCF P cv ro fuel c st = evC P cv ro fuel c st
  | 0, c, st => rfl
  | n + 1, c, st => by
    have ih : evCF P cv ro n = evC P cv ro n := funext fun c => funext fun st => evCF_eq P cv ro n c st
    have e : evCF P cv ro (n + 1) c st = Code.rec (motive := fun _ => Go' → St → R (Ex × St)) cSkip (cRegion P cv ro) (fun a b _ _ => cSeq a b) (fun c a b _ _ => cCond c a b) (fun id b _ => cBlock id b) (fun b _ => cLoop b)
      (fun g ps a b _ _ => cFunc P cv ro g ps a b) cExit (fun b _ => cScope b) (fun _ => cSkip) cGoto cRet (fun _ => cRefuse) c (evCF P cv ro n) st := rfl
    rw [e, ih]
    have hops : ∀ all l, opsF P cv ro all l = opsA P cv ro all l := fun all l => funext fun st => opsF_eq P cv ro all l st
    cases c with
    | region id ops draw =>
      cases draw
      · show bindF (opsF P cv ro ops.toList ops.toList st) toNormal = _
        rw [bindF_eq, opsF_eq]; rfl
      · show (drawF P cv ro ops.toList st).map (fun st => [(Ex.normal, st)]) = _
        rw [drawF_eq]; rfl
    | seq a b => show bindF _ _ = _; rw [bindF_eq]; rfl
    | block id b => show bindF _ _ = _; rw [bindF_eq]; rfl
    | loop b => show bindF _ _ = _; rw [bindF_eq]; rfl
    | scope b => show bindF _ _ = _; rw [bindF_eq]; rfl
    | _ => rfl

def bodyF (P : Program) (cv : CV) (fuel : Nat) (fn : Func) (c : Code) (args : List AV) (h : H) : R (Ex × St) :=
  evCF P cv none fuel c { t := argsTr 0 args .nil, n := args.length + (fn.ntmps - args.length), h, ds := [] }

theorem bodyF_eq (P : Program) (cv : CV) (fuel : Nat) (fn : Func) (c : Code) (args : List AV) (h : H) : bodyF P cv fuel fn c args h = bodyA P cv fuel fn c args h := evCF_eq P cv none fuel c _

def evVF (P : Program) (ex : EX) (fuel : Nat) : Nat → CV
  | 0, _, _, _ => none
  | d + 1, f, args, h => match f with
    | .func f => match (ex.find f).bind fun k => xA k args h with
     | some r => some [r]
     | none => match P.funcs[f]? with
      | some fn => match fn.body with
        | some c => (bindF (bodyF P (evVF P ex fuel d) fuel fn c args { h with low := h.next }) fun (e, st) => cond (endsOk e)
            (bindF (leaveA P (evVF P ex fuel d) fuel st.ds st.h) fun h => (resultsA P st.t h fn.results.toList).map fun v => [(v, h)]) none).map (compact h)
        | none => none
      | none => none
    | .yield id => match h.loopOf id with
      | some (.ready, _, t, n, ps, a, b, _) => cond (Nat.beq ps.toList.length args.length)
          (match setParams (ps.toList.zip args) n t with
           | some t1 => bindF (evCF P (evVF P ex fuel d) (some id) fuel a { t := t1, n, h, ds := [] }) fun (e, st) => match e with
             | .normal => match st.h.loopOf id with
               | some (.ready, p, t, n, ps, a, b', dfr) =>
                 bindF (evCF P (evVF P ex fuel d) (some id) fuel b { st with h := st.h.set id (.loop .busy p t n ps a b' dfr) }) fun (e, st) =>
                   match st.ds, st.h.loopOf id with
                   | [], some (_, _, t, n, ps, a, b, dfr) =>
                     let fin (s : LoopState) (j : Option Code) (r : Bool) : R (AV × H) := one (.bool r, st.h.set id (.loop s j t n ps a b dfr))
                     match e with
                     | .normal => fin .ready none true
                     | .ret => fin .done (some .ret) false
                     | .exit i => fin .done (some (.exit i)) false
                     | .goto l => fin .done (some (.goto l)) false
                   | _, _ => none
               | _ => none
             | _ => none
           | none => none) none
      | _ => none
    | _ => none

theorem evVF_eq (P : Program) (ex : EX) (fuel : Nat) : ∀ d, evVF P ex fuel d = evV P ex fuel d
  | 0 => rfl
  | d + 1 => by
    have ih := evVF_eq P ex fuel d
    funext f args h
    unfold evVF evV
    rw [ih]
    simp only [bindF_eq, bodyF_eq, evCF_eq]
    rfl

end
end Go.Ev

/- Facts about a program that a Bool check gives. No conditions beyond those that each theorem states. -/
namespace Go.Ev

def noGoB (fs : List Func) : Bool := fs.all fun fn => !(fn.body.isSome && fn.name == "runtime.NumGoroutine")

theorem noGo_of {P : Program} (h : noGoB P.funcs.toList = true) : NoGo P := by
  intro f fn hf hb
  have hm : fn ∈ P.funcs.toList := by
    have h1 : P.funcs.toList[f]? = some fn := by rw [Array.getElem?_toList]; exact hf
    exact List.mem_of_getElem? h1
  have := List.all_eq_true.1 h fn hm
  rw [hb] at this
  cases hn : fn.name == "runtime.NumGoroutine"
  · rfl
  · rw [hn] at this; simp at this

theorem idx_eq (c : Nat) (hc : c < 256) : ∀ (l : List UInt8) (i : Nat), idxByte c (l.map (·.toNat)) i = if Lib.indexByte l c.toUInt8 = -1 then -1 else Lib.indexByte l c.toUInt8 + i
  | [], i => rfl
  | b :: l, i => by
    have ih := idx_eq c hc l (i + 1)
    have hge := Lib.indexByte_ge l c.toUInt8
    have he : Lib.indexByte (b :: l) c.toUInt8 = if b == c.toUInt8 then 0 else if Lib.indexByte l c.toUInt8 == -1 then -1 else Lib.indexByte l c.toUInt8 + 1 := rfl
    generalize Lib.indexByte (b :: l) c.toUInt8 = z at he
    simp only [List.map_cons, idxByte]
    have hcc : (c.toUInt8).toNat = c := by simp [Nat.toUInt8, UInt8.toNat_ofNat]; omega
    cases hb : Nat.beq b.toNat c
    · have hne : (b == c.toUInt8) = false := by
        cases h : b == c.toUInt8
        · rfl
        · have e := eq_of_beq h
          have : b.toNat = c := by rw [e, hcc]
          rw [Nbeq this] at hb; cases hb
      rw [hne] at he
      simp only [Bool.false_eq_true, if_false] at he
      rw [cond_ff, ih]
      by_cases h1 : Lib.indexByte l c.toUInt8 = -1
      · have h2 : (Lib.indexByte l c.toUInt8 == -1) = true := by simpa using h1
        rw [h2] at he
        simp only [if_true] at he
        rw [if_pos h1, if_pos he]
      · have h2 : (Lib.indexByte l c.toUInt8 == -1) = false := by simpa using h1
        rw [h2] at he
        simp only [Bool.false_eq_true, if_false] at he
        rw [if_neg h1, if_neg (by omega)]; omega
    · have h : (b == c.toUInt8) = true := by
        have e := beqN hb
        have : b = c.toUInt8 := UInt8.toNat_inj.1 (by rw [hcc]; exact e)
        rw [this]; exact beq_self_eq_true _
      rw [h] at he
      simp only [if_true] at he
      rw [cond_tt, he]
      simp

theorem XOne.indexByte {P : Program} {f : FuncId} (hrun : ∀ (x : ByteArray) (c : Int) (w : World), (callFunc f #[.string x, .int .u8 c]).run P w = .ok (.value (.int .i64 (Lib.indexByte x.data.toList c.toNat.toUInt8))) w) : XOne P f .indexByte := by
  intro args h a h' hx σ w args' hv hr
  have hshape : ∃ s c, args = [.str s, .int .u8 (.ofNat c)] ∧ Nat.blt c 256 = true ∧ a = .int .i64 (idxByte c s 0) ∧ h' = h := by
    unfold xA at hx
    split at hx <;> first
      | (obtain ⟨h1, h2⟩ := cond_some hx; cases h2; exact ⟨_, _, rfl, h1, rfl, rfl⟩)
      | simp_all
  obtain ⟨s, c, rfl, hc, rfl, rfl⟩ := hshape
  obtain ⟨x, y, rfl, h1, h2⟩ := args2 hv
  cases h1 with
  | @str _ sx hs =>
    cases h2
    rw [hrun sx _ w, ← hs, idx_eq c (bltN hc)]
    have e : (Int.ofNat c).toNat = c := rfl
    rw [e]
    have : (if Lib.indexByte sx.data.toList c.toUInt8 = -1 then -1 else Lib.indexByte sx.data.toList c.toUInt8 + ((0 : Nat) : Int)) = Lib.indexByte sx.data.toList c.toUInt8 := by
      split
      · rename_i h; exact h.symm
      · omega
    rw [this]
    exact ⟨_, _, List.mem_singleton.2 rfl, σ, .int _ _, hr, .refl _ _ _⟩

end Go.Ev

/- A logic for code over the abstract heap: what an operation, a piece of code, a call does in whatever memory. No conditions beyond those that each theorem states. -/
namespace Go.Ev
open Go.RowKit

/-- A run ends with a value and a heap of Q. -/
def GotQ (σ : Sg) (h : H) (w : World) (Q : AV → H → Prop) (v : Value) (w' : World) : Prop := ∃ a h', Q a h' ∧ ∃ σ', V σ' a v ∧ HR σ' h' w' ∧ Ext σ σ' h h' w w'

/-- A call's contract. -/
def ACalls (P : Program) (f : Fn) (args : List AV) (h : H) (Q : AV → H → Prop) : Prop := match f with
  | .func g => ∀ σ w (args' : Array Value), VL σ args args'.toList → HR σ h w → Fine P ((callFunc g args').run P w) (GotQ σ h w Q)
  | .yield id => ∀ σ w p (args' : Array Value), σ id = some p → VL σ args args'.toList → HR σ h w → Fine P ((Instr.yield p.b args').run P w) (GotQ σ h w Q)
  | _ => False

theorem GotQ.mono {σ : Sg} {h : H} {w : World} {Q Q' : AV → H → Prop} {v : Value} {w' : World} (hq : ∀ a h', Q a h' → Q' a h') (hg : GotQ σ h w Q v w') : GotQ σ h w Q' v w' :=
  let ⟨a, h', h1, h2⟩ := hg; ⟨a, h', hq _ _ h1, h2⟩

theorem ACalls.mono {P : Program} {f : Fn} {args : List AV} {h : H} {Q Q' : AV → H → Prop} (hc : ACalls P f args h Q) (hq : ∀ a h', Q a h' → Q' a h') : ACalls P f args h Q' := by
  cases f with
  | func g => exact fun σ w args' hv hr => (hc σ w args' hv hr).mono fun v w' hg => hg.mono hq
  | yield id => exact fun σ w p args' hp hv hr => (hc σ w p args' hp hv hr).mono fun v w' hg => hg.mono hq
  | _ => exact hc.elim

theorem ACalls.of_cv {P : Program} {cv : CV} (hcv : CVok P cv) {f : Fn} {args : List AV} {h : H} {outs : List (AV × H)} (ho : cv f args h = some outs) : ACalls P f args h (fun a h' => (a, h') ∈ outs) := by
  rcases hcv.only _ _ _ _ ho with ⟨g, rfl⟩ | ⟨id, rfl⟩
  · exact fun σ w args' hv hr => (hcv.func _ _ _ _ ho σ w args' hv hr).mono fun v w' ⟨a, h', h1, h2⟩ => ⟨a, h', h1, h2⟩
  · exact fun σ w p args' hp hv hr => (hcv.yield _ _ _ _ ho σ w p args' hp hv hr).mono fun v w' ⟨a, h', h1, h2⟩ => ⟨a, h', h1, h2⟩

/-- Nothing is served. -/
def cv0 : CV := fun _ _ _ => none

theorem cv0_ok {P : Program} : CVok P cv0 :=
  ⟨fun _ _ _ _ h => by simp [cv0] at h, fun _ _ _ _ h => by simp [cv0] at h, fun _ _ _ _ h => by simp [cv0] at h⟩

/-! ### Frames -/

/-- A frame: what each temporary holds. -/
def upd (f : Nat → AV) (d : Nat) (v : AV) : Nat → AV := fun i => _root_.cond (Nat.beq i d) v (f i)
def updo (f : Nat → AV) (d : Option Tmp) (v : AV) : Nat → AV := match d with
  | none => f
  | some d => upd f d v

theorem upd_same (f : Nat → AV) (d : Nat) (v : AV) : upd f d v d = v := by simp [upd]
theorem upd_other (f : Nat → AV) {d i : Nat} (v : AV) (h : i ≠ d) : upd f d v i = f i := by
  unfold upd
  cases hb : Nat.beq i d
  · rfl
  · exact absurd (beqN hb) h

/-- A frame as a trie. -/
noncomputable def trOf (f : Nat → AV) : Nat → Tr AV
  | 0 => .nil
  | n + 1 => (trOf f n).put n (some (f n))

theorem trOf_get (f : Nat → AV) : ∀ (n i : Nat), i < n → (trOf f n).get i = some (f i)
  | 0, i, h => by omega
  | n + 1, i, h => by
    unfold trOf
    by_cases e : i = n
    · subst e; rw [put_same]
    · rw [put_other _ _ e]; exact trOf_get f n i (by omega)

theorem trOf_out (f : Nat → AV) : ∀ (n i : Nat), n ≤ i → (trOf f n).get i = none
  | 0, i, _ => get_nil i
  | n + 1, i, h => by
    unfold trOf
    rw [put_other _ _ (by omega)]; exact trOf_out f n i (by omega)

theorem ev_tmp {f : Nat → AV} {n i : Nat} (h : i < n) : ev (trOf f n) (.tmp i) = some (f i) := by
  simp only [ev, trOf_get f n i h]

theorem ev_const {t : Tr AV} {v : Value} : ev t (.const v) = absV depthV v := rfl
theorem ev_func {t : Tr AV} {f : FuncId} : ev t (.func f) = some (.fn (.func f) [] []) := rfl

structure FSt where
  f : Nat → AV
  n : Nat
  h : H
  ds : List ADf

def TF (σ : Sg) (f : Nat → AV) (n : Nat) (tmps : Array Value) : Prop := tmps.size = n ∧ ∀ i, i < n → V σ (f i) (tmps.getD i undef)

structure SF (σ : Sg) (st : FSt) (a : Act) (w : World) : Prop where
  t : TF σ st.f st.n a.tmps
  h : HR σ st.h w
  ds : DsR σ st.ds a.defers

theorem TF.mono {σ σ' : Sg} (hle : ∀ id p, σ id = some p → σ' id = some p) {f : Nat → AV} {n : Nat} {tmps : Array Value} (h : TF σ f n tmps) : TF σ' f n tmps :=
  ⟨h.1, fun i hi => (h.2 i hi).mono hle⟩

theorem TF.tr {σ : Sg} {f : Nat → AV} {n : Nat} {tmps : Array Value} (h : TF σ f n tmps) : TR σ (trOf f n) n tmps := by
  refine ⟨h.1, fun i => ?_⟩
  rcases Nat.lt_or_ge i n with hi | hi
  · rw [trOf_get f n i hi]; exact h.2 i hi
  · rw [trOf_out f n i hi]
    have : tmps.getD i undef = undef := by
      rw [Array.getD_eq_getD_getElem?, Array.getElem?_eq_none (by rw [h.1]; exact hi)]; rfl
    rw [this]; exact V.und

theorem TF.put {σ : Sg} {f : Nat → AV} {n : Nat} {a : Act} (h : TF σ f n a.tmps) {d : Option Tmp} {x : AV} {v : Value} (hd : ∀ k, d = some k → k < n) (hv : V σ x v) : TF σ (updo f d x) n (a.put d v).tmps := by
  cases d with
  | none => exact h
  | some d =>
    have := TR.put (a := a) h.tr (hd d rfl) hv
    refine ⟨this.1, fun i hi => ?_⟩
    have h2 := this.2 i
    by_cases e : i = d
    · subst e; rw [put_same] at h2; rw [show updo f (some i) x i = x from upd_same _ _ _]; exact h2
    · rw [put_other _ _ e, trOf_get f n i hi] at h2; rw [show updo f (some d) x i = f i from upd_other _ _ e]; exact h2

theorem SF.sr {σ : Sg} {st : FSt} {a : Act} {w : World} (h : SF σ st a w) : SR σ ⟨trOf st.f st.n, st.n, st.h, st.ds⟩ a w := ⟨h.t.tr, h.h, h.ds⟩

/-- Does the destination lie in the frame? -/
def dstIn (d : Option Tmp) (n : Nat) : Bool := match d with
  | none => true
  | some d => Nat.blt d n

theorem dstIn_lt {d : Option Tmp} {n : Nat} (h : dstIn d n = true) : ∀ k, d = some k → k < n := by
  intro k e; subst e; exact bltN h

theorem SF.put {σ σ' : Sg} {f : Nat → AV} {n : Nat} {h h' : H} {ds : List ADf} {a : Act} {w w' : World} (hs : SF σ ⟨f, n, h, ds⟩ a w) (hle : ∀ id p, σ id = some p → σ' id = some p) {d : Option Tmp} (hd : dstIn d n = true) {x : AV} {v : Value} (hv : V σ' x v) (hr : HR σ' h' w') :
    SF σ' ⟨updo f d x, n, h', ds⟩ (a.put d v) w' :=
  ⟨(hs.t.mono hle).put (dstIn_lt hd) hv, hr, by rw [put_defers]; exact hs.ds.mono hle⟩

/-! ### One operation -/

def AOne (P : Program) (ro : Option Nat) (o : Oper) (st : FSt) (K : FSt → Prop) : Prop := ∀ (F : Fence) (n : Nat) (σ : Sg) (a : Act) (w : World) (next : Act → World → Prop) (Q : Exit → Act → World → Prop), SF σ st a w → FOf σ ro F →
  (∀ st' a' w' σ', K st' → SF σ' st' a' w' → Ext σ σ' st.h st'.h w w' → st'.n = st.n → next a' w') → o.wpIn F n P a w next Q

theorem AOne.mono {P : Program} {ro : Option Nat} {o : Oper} {st : FSt} {K K' : FSt → Prop} (h : AOne P ro o st K) (hk : ∀ x, K x → K' x) : AOne P ro o st K' :=
  fun F n σ a w next Q hs hF hn => h F n σ a w next Q hs hF fun st' a' w' σ' h1 => hn st' a' w' σ' (hk _ h1)

def noDefer : Op → Bool
  | .defer _ => false
  | _ => true

/-- What an operation leaves. -/
def leaves (f : Nat → AV) (n : Nat) (ds : List ADf) (d : Option Tmp) (x : Option AV × H) : FSt := ⟨updo f d (match x.1 with | some v => v | none => und), n, x.2, ds⟩

theorem AOne.run {P : Program} {ro : Option Nat} {o : Oper} {f : Nat → AV} {m : Nat} {h : H} {ds : List ADf} {K : FSt → Prop} {outs : List (Option AV × H)} (hnd : noDefer o.op = true) (hd : dstIn o.dst m = true) (ho : opA P (trOf f m) h o.op = some outs)
    (hk : ∀ x ∈ outs, K (leaves f m ds o.dst x)) : AOne P ro o ⟨f, m, h, ds⟩ K := by
  intro F n σ a w next Q hs hF hnext
  refine ⟨fun f _ => hF.fn f, ?_⟩
  have hρ := hs.sr.t.ev
  have hsem : o.semAt F.round a.eval = execOp a.eval o := Oper.semAt_eq _ _ _ (fun c' hc' => by rw [hc'] at hnd; simp [noDefer] at hnd)
  rw [hsem]
  obtain ⟨r, h', hm, σ', x, w', hrun, hres, hh', hext⟩ := opA_run (P := P) hρ hs.h ho
  rw [hrun]
  have hkk := hk _ hm
  cases r with
  | some av =>
    obtain ⟨v, rfl, hV⟩ := hres
    exact hnext _ _ w' σ' hkk (hs.put hext.le hd hV hh') hext rfl
  | none =>
    have hres : x = .skip := hres
    subst hres
    exact hnext _ _ w' σ' hkk (hs.put hext.le hd V.und hh') hext rfl

theorem AOne.call {P : Program} {ro : Option Nat} {o : Oper} {f : Nat → AV} {m : Nat} {h : H} {ds : List ADf} {K : FSt → Prop} {c : Call} {g : Fn} {xs cap : List AV} {Q' : AV → H → Prop} (hop : o.op = .call c) (hdy : isDyn (.call c) = true) (hd : dstIn o.dst m = true) (hc : callOf P (trOf f m) c = some (g, xs, cap))
    (hq : ACalls P g (xs ++ cap) h Q') (hk : ∀ v h', Q' v h' → K ⟨updo f o.dst v, m, h', ds⟩) : AOne P ro o ⟨f, m, h, ds⟩ K := by
  intro F n σ a w next Q hs hF hnext
  refine ⟨fun f _ => hF.fn f, ?_⟩
  have hρ := hs.sr.t.ev
  have hsem : o.semAt F.round a.eval = execOp a.eval o := Oper.semAt_eq _ _ _ (fun c' hc' => by rw [hop] at hc'; cases hc')
  rw [hsem]
  have hexec : (execOp a.eval o).run P w = ((do let d ← resolve a.eval c o.type; invoke d.target d.args) : Sem Next).run P w := by
    cases c with
    | mk callee args ats => cases callee with
      | builtin b => simp [isDyn] at hdy
      | value g => simp only [execOp, hop]
      | invoke r m => simp only [execOp, hop]
  have fin : ∀ r, Fine P r (GotQ σ h w Q') → o.uponIn F n P a next Q r := by
    intro r hf
    refine upon_of hF hf ?_
    rintro v w' ⟨av, h', hm, σ', hV, hh', hext⟩
    exact hnext _ _ w' σ' (hk _ _ hm) (hs.put hext.le hd hV hh') hext rfl
  rw [hexec]
  rcases callOf_dyn hc hρ o.type (w := w) with ⟨g, args', rfl, hv, he⟩ | ⟨id, p, args', rfl, hp, hv, he⟩ | ⟨h1, h2⟩
  · rw [he]; exact fin _ (hq _ _ _ hv hs.h)
  · rw [he]; exact fin _ (hq _ _ _ _ hp hv hs.h)
  · cases g with
    | func g => exact absurd rfl (h1 g)
    | yield id => exact absurd rfl (h2 id)
    | _ => exact hq.elim

/-! ### A list of operations -/

def AOps (P : Program) (ro : Option Nat) (all l : List Oper) (st : FSt) (K : FSt → Prop) : Prop := ∀ (ops : Array Oper) (i : Nat), ops.toList = all → ops.toList.drop i = l → ∀ (F : Fence) (n : Nat) (σ : Sg) (a : Act) (w : World) (Q : Exit → Act → World → Prop),
  SF σ st a w → FOf σ ro F → (∀ st' a' w' σ', K st' → SF σ' st' a' w' → Ext σ σ' st.h st'.h w w' → st'.n = st.n → Q .normal a' w') → wpOpsIn F n P ops Q (List.range' i l.length) a w

theorem AOps.nil {P : Program} {ro : Option Nat} {all : List Oper} {st : FSt} {K : FSt → Prop} (h : K st) : AOps P ro all [] st K :=
  fun _ _ _ _ _ _ σ a w _ hs _ hQ => hQ st a w σ h hs (.refl _ _ _) rfl

theorem drop_head {ops : Array Oper} {i : Nat} {o : Oper} {l : List Oper} (hd : ops.toList.drop i = o :: l) : ops[i]? = some o ∧ ops.toList.drop (i + 1) = l := by
  refine ⟨?_, ?_⟩
  · rw [← Array.getElem?_toList]
    have := congrArg (fun l => l[0]?) hd
    simpa using this
  · have := congrArg List.tail hd
    simpa [List.tail_drop] using this

/-- Is an operation wanted? -/
def wantedF (ops : List Oper) (f : Nat → AV) (n : Nat) (o : Oper) : Option Bool := match o.guard with
  | none => some true
  | some (j, want) => match (ops[j]?).bind (·.dst) with
    | some d => _root_.cond (Nat.blt d n) (match f d with
      | .bool b => some (b == want)
      | .tup [] => some false
      | _ => none) none
    | none => none

theorem wantedF_A {ops : List Oper} {f : Nat → AV} {n : Nat} {o : Oper} {b : Bool} (h : wantedF ops f n o = some b) : wantedA ops (trOf f n) n o = some b := by
  unfold wantedF at h
  unfold wantedA
  split at h
  · rename_i hg; rw [hg]; exact h
  · rename_i j want hg
    rw [hg]; simp only
    split at h
    · rename_i d hd
      obtain ⟨hlt, h2⟩ := cond_some h
      rw [hd]; simp only; rw [hlt, cond_tt, trOf_get f n d (bltN hlt)]
      split at h2
      · rename_i x hx; rw [hx]; exact h2
      · rename_i hx; rw [hx]; exact h2
      · simp at h2
    · simp at h

theorem AOps.cons {P : Program} {ro : Option Nat} {all : List Oper} {o : Oper} {l : List Oper} {st : FSt} {K : FSt → Prop} (hw : wantedF all st.f st.n o = some true) (h : AOne P ro o st (fun st' => AOps P ro all l st' K)) : AOps P ro all (o :: l) st K := by
  intro ops i ha hdd F n σ a w Q hs hF hQ
  obtain ⟨hoi, hdr⟩ := drop_head hdd
  rw [List.length_cons, List.range'_succ]
  simp only [wpOpsIn, hoi]
  have hwt := wantedA_ok (by rw [ha]; exact wantedF_A hw) hs.t.tr
  rw [hwt]
  simp only [if_true]
  refine h F n σ a w _ Q hs hF ?_
  intro st' a' w' σ' hK hs' hE' hn'
  exact hK ops (i + 1) ha hdr F n σ' a' w' Q hs' (hF.mono hE'.le) fun st'' a'' w'' σ'' h1 h2 h3 h4 => hQ st'' a'' w'' σ'' h1 h2 (hE'.trans h3) (h4.trans hn')

theorem AOps.skip {P : Program} {ro : Option Nat} {all : List Oper} {o : Oper} {l : List Oper} {f : Nat → AV} {m : Nat} {h : H} {ds : List ADf} {K : FSt → Prop} (hw : wantedF all f m o = some false) (hd : dstIn o.dst m = true) (hk : AOps P ro all l ⟨updo f o.dst und, m, h, ds⟩ K) : AOps P ro all (o :: l) ⟨f, m, h, ds⟩ K := by
  intro ops i ha hdd F n σ a w Q hs hF hQ
  obtain ⟨hoi, hdr⟩ := drop_head hdd
  rw [List.length_cons, List.range'_succ]
  simp only [wpOpsIn, hoi]
  have hwt := wantedA_ok (by rw [ha]; exact wantedF_A hw) hs.t.tr
  rw [hwt]
  simp only [Bool.false_eq_true, if_false]
  refine ⟨fun f _ => hF.fn f, ?_⟩
  exact hk ops (i + 1) ha hdr F n σ _ w Q (hs.put (fun _ _ h => h) hd V.und hs.h) hF fun st'' a'' w'' σ'' h1 h2 h3 h4 => hQ st'' a'' w'' σ'' h1 h2 h3 h4

/-! ### Code -/

def PostQ (σ : Sg) (h : H) (w : World) (N : Nat) (Q : Ex → FSt → Prop) : Exit → Act → World → Prop := fun e a' w' =>
  ∃ ex st', Q ex st' ∧ ExR ex e ∧ ∃ σ', SF σ' st' a' w' ∧ Ext σ σ' h st'.h w w' ∧ st'.n = N

def AWp (P : Program) (ro : Option Nat) (c : Code) (st : FSt) (Q : Ex → FSt → Prop) : Prop := ∀ (F : Fence) (n : Nat) (σ : Sg) (a : Act) (w : World), SF σ st a w → FOf σ ro F → c.wpIn F n P (PostQ σ st.h w st.n Q) a w

theorem AWp.wide {P : Program} {ro : Option Nat} {c : Code} {st : FSt} {Q : Ex → FSt → Prop} (h : AWp P ro c st Q) {F : Fence} {n : Nat} {σ σ0 : Sg} {a : Act} {w w0 : World} {h0 : H} {N : Nat} (hs : SF σ st a w) (hF : FOf σ ro F) (hE : Ext σ0 σ h0 st.h w0 w) (hN : st.n = N) :
    c.wpIn F n P (PostQ σ0 h0 w0 N Q) a w :=
  wpIn_mono (h F n σ a w hs hF) fun _ _ _ ⟨ex, st', h1, h2, σ', h3, h4, h5⟩ => ⟨ex, st', h1, h2, σ', h3, hE.trans h4, h5.trans hN⟩

theorem AWp.mono {P : Program} {ro : Option Nat} {c : Code} {st : FSt} {Q Q' : Ex → FSt → Prop} (h : AWp P ro c st Q) (hq : ∀ e x, Q e x → Q' e x) : AWp P ro c st Q' :=
  fun F n σ a w hs hF => wpIn_mono (h F n σ a w hs hF) fun _ _ _ ⟨ex, st', h1, h2⟩ => ⟨ex, st', hq _ _ h1, h2⟩

theorem AWp.here {st : FSt} {Q : Ex → FSt → Prop} {ex : Ex} {e : Exit} (h : Q ex st) (he : ExR ex e) {σ : Sg} {a : Act} {w : World} (hs : SF σ st a w) : PostQ σ st.h w st.n Q e a w :=
  ⟨ex, st, h, he, σ, hs, .refl _ _ _, rfl⟩

theorem AWp.skip {P : Program} {ro : Option Nat} {st : FSt} {Q : Ex → FSt → Prop} (h : Q .normal st) : AWp P ro .skip st Q := fun _ _ _ _ _ hs _ => wpIn_skip ⟨.normal, st, h, rfl, _, hs, .refl _ _ _, rfl⟩
theorem AWp.label {P : Program} {ro : Option Nat} {l : Nat} {st : FSt} {Q : Ex → FSt → Prop} (h : Q .normal st) : AWp P ro (.label l) st Q := fun _ _ _ _ _ hs _ => wpIn_label ⟨.normal, st, h, rfl, _, hs, .refl _ _ _, rfl⟩
theorem AWp.exit {P : Program} {ro : Option Nat} {id : Nat} {st : FSt} {Q : Ex → FSt → Prop} (h : Q (.exit id) st) : AWp P ro (.exit id) st Q := fun _ _ _ _ _ hs _ => wpIn_exit ⟨.exit id, st, h, rfl, _, hs, .refl _ _ _, rfl⟩
theorem AWp.goto {P : Program} {ro : Option Nat} {l : Nat} {st : FSt} {Q : Ex → FSt → Prop} (h : Q (.goto l) st) : AWp P ro (.goto l) st Q := fun _ _ _ _ _ hs _ => wpIn_goto ⟨.goto l, st, h, rfl, _, hs, .refl _ _ _, rfl⟩
theorem AWp.ret {P : Program} {ro : Option Nat} {st : FSt} {Q : Ex → FSt → Prop} (h : Q .ret st) : AWp P ro .ret st Q := fun _ _ _ _ _ hs _ => wpIn_ret ⟨.ret, st, h, rfl, _, hs, .refl _ _ _, rfl⟩

theorem AWp.region {P : Program} {ro : Option Nat} {id : Nat} {ops : Array Oper} {st : FSt} {Q : Ex → FSt → Prop} (h : AOps P ro ops.toList ops.toList st (Q .normal)) : AWp P ro (.region id ops false) st Q := by
  intro F n σ a w hs hF
  refine wpIn_region ?_
  have := h ops 0 rfl rfl F n σ a w (PostQ σ st.h w st.n Q) hs hF fun st' a' w' σ' h1 h2 h3 h4 => ⟨.normal, st', h1, rfl, σ', h2, h3, h4⟩
  rw [List.range_eq_range']
  simpa using this

theorem AWp.draw {P : Program} {ro : Option Nat} {id : Nat} {ops : Array Oper} {f : Nat → AV} {m : Nat} {h : H} {ds : List ADf} {st' : St} {Q : Ex → FSt → Prop} {cv : CV} (hcv : CVok P cv) (hd : drawA P cv ro ops.toList ⟨trOf f m, m, h, ds⟩ = some st') {f' : Nat → AV} (hf : ∀ i, i < m → f' i = (st'.t.get i).getD und) (hq : Q .normal ⟨f', m, st'.h, st'.ds⟩) : AWp P ro (.region id ops true) ⟨f, m, h, ds⟩ Q := by
  intro F n σ a w hs hF
  refine wpIn_region_draw fun t => ?_
  have hE2 : Ext σ σ h h w { w with drawn := w.drawn + 1 } := Ext.of_eq rfl rfl rfl rfl
  refine drawOk_all P cv hcv ro F n ops _ st' hd σ a { w with drawn := w.drawn + 1 } ⟨hs.t.tr, hs.h.congr rfl, hs.ds⟩ hF t _ ?_
  intro a' w' σ' hs' hE' hn'
  exact ⟨.normal, _, hq, rfl, σ', ⟨⟨hs'.t.1.trans hn', fun i hi => by show V σ' (f' i) _; rw [hf i hi]; exact hs'.t.2 i⟩, hs'.h, hs'.ds⟩, hE2.trans hE', rfl⟩

/-- What stands behind a piece of code. -/
def Then (P : Program) (ro : Option Nat) (y : Code) (Q : Ex → FSt → Prop) : Ex → FSt → Prop
  | .normal, st => AWp P ro y st Q
  | e, st => Q e st

theorem AWp.seq {P : Program} {ro : Option Nat} {x y : Code} {st : FSt} {Q : Ex → FSt → Prop} (h : AWp P ro x st (Then P ro y Q)) : AWp P ro (.seq x y) st Q := by
  intro F n σ a w hs hF
  refine wpIn_seq (wpIn_mono (h F n σ a w hs hF) ?_)
  rintro e a' w' ⟨ex, st', hq, hex, σ', hs', hE', hn'⟩
  cases ex with
  | normal =>
    have : e = .normal := hex
    subst this
    exact AWp.wide (st := st') hq hs' (hF.mono hE'.le) hE' hn'
  | ret => have : e = .ret := hex
           subst this
           exact ⟨_, st', hq, rfl, σ', hs', hE', hn'⟩
  | exit id => have : e = .exit id := hex
               subst this
               exact ⟨_, st', hq, rfl, σ', hs', hE', hn'⟩
  | goto l => have : e = .goto l := hex
              subst this
              exact ⟨_, st', hq, rfl, σ', hs', hE', hn'⟩

theorem AWp.cond {P : Program} {ro : Option Nat} {c : Operand} {x y : Code} {st : FSt} {Q : Ex → FSt → Prop} {b : Bool} (hc : ev (trOf st.f st.n) c = some (.bool b)) (h1 : b = true → AWp P ro x st Q) (h2 : b = false → AWp P ro y st Q) : AWp P ro (.cond c x y) st Q := by
  intro F n σ a w hs hF
  have hv := hs.sr.t.ev _ _ hc
  generalize hg : a.eval c = v at hv
  cases hv
  cases b
  · exact wpIn_cond_false hg (h2 rfl F n σ a w hs hF)
  · exact wpIn_cond_true hg (h1 rfl F n σ a w hs hF)

/-- Where an exit out of a block leads. -/
def OutOf (id : Nat) (Q : Ex → FSt → Prop) : Ex → FSt → Prop
  | .exit i, st => if i = id then Q .normal st else Q (.exit i) st
  | e, st => Q e st

theorem AWp.block {P : Program} {ro : Option Nat} {id : Nat} {x : Code} {st : FSt} {Q : Ex → FSt → Prop} (h : AWp P ro x st (OutOf id Q)) : AWp P ro (.block id x) st Q := by
  intro F n σ a w hs hF
  refine wpIn_block (wpIn_mono (h F n σ a w hs hF) ?_)
  rintro e a' w' ⟨ex, st', hq, hex, σ', hs', hE', hn'⟩
  cases ex with
  | normal =>
    have : e = .normal := hex
    subst this
    exact ⟨_, st', hq, rfl, σ', hs', hE', hn'⟩
  | ret =>
    have : e = .ret := hex
    subst this
    exact ⟨_, st', hq, rfl, σ', hs', hE', hn'⟩
  | goto l =>
    have : e = .goto l := hex
    subst this
    exact ⟨_, st', hq, rfl, σ', hs', hE', hn'⟩
  | exit id' =>
    have : e = .exit id' := hex
    subst this
    simp only [Exit.inBlock]
    simp only [OutOf] at hq
    by_cases hb : id' = id
    · rw [if_pos hb] at hq ⊢
      exact ⟨_, st', hq, rfl, σ', hs', hE', hn'⟩
    · rw [if_neg hb] at hq ⊢
      exact ⟨_, st', hq, rfl, σ', hs', hE', hn'⟩

theorem roundsIn_more {F : Fence} {n : Nat} {P : Program} {c : Code} {Q : Exit → Act → World → Prop} : ∀ {k m : Nat}, k ≤ m → ∀ {a : Act} {w : World}, Code.roundsIn F n P c Q k a w → Code.roundsIn F n P c Q m a w
  | 0, _, _, _, _, h => h.elim
  | k + 1, 0, hk, _, _, _ => by omega
  | k + 1, m + 1, hk, a, w, h => by
    rw [roundsIn_succ] at h ⊢
    refine wpIn_mono h fun e a w hq => ?_
    cases e with
    | normal => exact roundsIn_more (by omega) hq
    | _ => exact hq

/-- A round's end: the relation again, the measure lower; or the loop is left. -/
def Round (I : Nat → FSt → Prop) (m : Nat) (Q : Ex → FSt → Prop) : Ex → FSt → Prop
  | .normal, st => ∃ k, k < m ∧ I k st
  | e, st => Q e st

theorem AWp.loop {P : Program} {ro : Option Nat} {x : Code} {st : FSt} {Q : Ex → FSt → Prop} (I : Nat → FSt → Prop) (m : Nat) (h0 : I m st) (h : ∀ m st, I m st → AWp P ro x st (Round I m Q)) : AWp P ro (.loop x) st Q := by
  intro F n σ a w hs hF
  have key : ∀ (m : Nat) (st1 : FSt), I m st1 → st1.n = st.n → ∀ (σ1 : Sg) (a1 : Act) (w1 : World), SF σ1 st1 a1 w1 → Ext σ σ1 st.h st1.h w w1 → Code.roundsIn F n P x (PostQ σ st.h w st.n Q) (m + 1) a1 w1 := by
    intro m
    induction m using Nat.strongRecOn with
    | _ m ih =>
      intro st1 hI hn1 σ1 a1 w1 hs1 hE1
      rw [roundsIn_succ]
      refine wpIn_mono (AWp.wide (h m st1 hI) hs1 (hF.mono hE1.le) hE1 hn1) ?_
      rintro e a' w' ⟨ex, st', hq, hex, σ', hs', hE', hn'⟩
      cases ex with
      | normal =>
        have : e = .normal := hex
        subst this
        obtain ⟨k, hk, hI'⟩ := hq
        exact roundsIn_more (by omega) (ih k hk st' hI' hn' σ' a' w' hs' hE')
      | ret =>
        have : e = .ret := hex
        subst this
        exact ⟨_, st', hq, rfl, σ', hs', hE', hn'⟩
      | goto l =>
        have : e = .goto l := hex
        subst this
        exact ⟨_, st', hq, rfl, σ', hs', hE', hn'⟩
      | exit id' =>
        have : e = .exit id' := hex
        subst this
        exact ⟨_, st', hq, rfl, σ', hs', hE', hn'⟩
  exact wpIn_loop_rounds (m + 1) (key m st h0 rfl σ a w hs (.refl _ _ _))

def NoGoto (Q : Ex → FSt → Prop) : Ex → FSt → Prop
  | .goto _, _ => False
  | e, st => Q e st

theorem AWp.scope {P : Program} {ro : Option Nat} {x : Code} {st : FSt} {Q : Ex → FSt → Prop} (h : AWp P ro x st (NoGoto Q)) : AWp P ro (.scope x) st Q := by
  intro F n σ a w hs hF
  refine wpIn_scope (wpIn_mono (h F n σ a w hs hF) ?_)
  rintro e a' w' ⟨ex, st', hq, hex, σ', hs', hE', hn'⟩
  cases ex with
  | normal =>
    have : e = .normal := hex
    subst this
    exact ⟨by simp, _, st', hq, rfl, σ', hs', hE', hn'⟩
  | ret =>
    have : e = .ret := hex
    subst this
    exact ⟨by simp, _, st', hq, rfl, σ', hs', hE', hn'⟩
  | goto l => exact hq.elim
  | exit id' =>
    have : e = .exit id' := hex
    subst this
    exact ⟨by simp, _, st', hq, rfl, σ', hs', hE', hn'⟩

end Go.Ev

/- A function's contract out of its body; what a call leaves. No conditions beyond those that each theorem states. -/
namespace Go.Ev
open Go.RowKit

def argF (args : List AV) : Nat → AV := fun i => match args[i]? with
  | some v => v
  | none => und

theorem argF_TF {σ : Sg} {args : List AV} {args' : Array Value} (h : VL σ args args'.toList) (nt : Nat) : TF σ (argF args) (args.length + (nt - args.length)) (args' ++ Array.replicate (nt - args'.size) undef) := by
  have ht := enter_TR h nt
  refine ⟨ht.1, fun i hi => ?_⟩
  have := ht.2 i
  rw [argsTr_get] at this
  unfold argF
  by_cases hl : i < args.length
  · rw [if_pos (by omega)] at this
    rw [Nat.sub_zero] at this
    cases hx : args[i]? with
    | none => rw [List.getElem?_eq_none_iff] at hx; omega
    | some v => rw [hx] at this; exact this
  · rw [if_neg (by omega), get_nil] at this
    rw [List.getElem?_eq_none (by omega)]
    exact this

/-- What a function's body leaves: its results, and the heap: as it is, or with the new rows alone. -/
def Lv (P : Program) (fn : Func) (h : H) (Q : AV → H → Prop) : Ex → FSt → Prop := fun e st => endsOk e = true ∧ ∃ h'', leaveA P cv0 0 st.ds st.h = some [h''] ∧ ∃ v, resultsA P (trOf st.f st.n) h'' fn.results.toList = some v ∧
  (Q v { h'' with low := minN h.low h''.low } ∨ ∃ v' u l, canonV h'' h.next 3 v [] [] = some (v', u, l) ∧ h''.low = h.next ∧ Q v' (layAll l h))

theorem ACalls.body {P : Program} (hng : NoGo P) {g : FuncId} {fn : Func} {c : Code} {args : List AV} {h : H} {Q : AV → H → Prop} (hf : P.funcs[g]? = some fn) (hb : fn.body = some c) {n : Nat} (hn : args.length + (fn.ntmps - args.length) = n)
    (hw : AWp P none c ⟨argF args, n, { h with low := h.next }, []⟩ (Lv P fn h Q)) : ACalls P (.func g) args h Q := by
  intro σ w args' hv hr
  rw [callFunc_enter hng hf (by rw [hb]; rfl)]
  have hr1 : HR σ { h with low := h.next } w := ⟨hr.obj, hr.fresh, hr.sep, hr.fam, Nat.le_refl _⟩
  subst hn
  have hw := hw Fence.wide 0 σ { tmps := args' ++ Array.replicate (fn.ntmps - args'.size) undef, defers := [] } w ⟨argF_TF hv _, hr1, trivial⟩ rfl
  refine callsIn_wide.1 (callsIn_of_wp_marks (F := Fence.wide) (n := 0) hf hb trivial (wpIn_mono hw ?_))
  rintro e a' w' ⟨exx, st', ⟨hend, h'', hl, v, hres, hQ⟩, hexx, σ', hs', hE', hn'⟩
  have key : LeavesInM Fence.wide 0 P fn a'.tmps (fun e w'' => ∃ v, e = .returned v ∧ GotQ σ h w Q v w'') a'.defers .returning w' := by
    refine leaveA_ok (cv := cv0) hng (drawOk_all P) cv0_ok st'.ds st'.h [h''] hl a'.defers σ' w' hs'.ds hs'.h hs'.sr.t hE' ?_
    intro h3 σ'' w'' hm'' hh'' ht'' hE''
    have : h3 = h'' := List.mem_singleton.1 hm''
    subst this
    obtain ⟨x, k1, k2⟩ := resultsA_run ht'' hh'' hres
    refine ⟨x, k1, x, rfl, ?_⟩
    rcases hQ with hQ | ⟨v', u, l, hc, hlow, hQ⟩
    · have := lower hr hh'' hE''
      exact ⟨v, _, hQ, σ'', k2, this.1, this.2⟩
    · obtain ⟨pl, hR, k⟩ := canonV_ok hh'' 3 v [] [] v' u l hc x [] k2 .nil
      rw [List.nil_append] at hR k
      have := compact_HR hr hh'' hE'' hlow hR
      refine ⟨v', _, hQ, _, k _ ?_, this.1, this.2⟩
      intro i p hi
      unfold keep
      rw [if_neg (by omega), show h.next + i - h.next = i by omega]
      exact hi
  rcases endsOk_cases hend with rfl | rfl
  · have : e = .normal := hexx
    subst this
    exact key
  · have : e = .ret := hexx
    subst this
    exact key

/-- From the evaluator. -/
theorem ACalls.ev {P : Program} (hng : NoGo P) {ex : EX} (hex : ExOK P ex) {fuel d : Nat} {f : Fn} {args : List AV} {h : H} {outs : List (AV × H)} (ho : evV P ex fuel d f args h = some outs) : ACalls P f args h (fun a h' => (a, h') ∈ outs) :=
  .of_cv (evV_ok hng (drawOk_all P) hex fuel d) ho

end Go.Ev
