/- The logic's steps, as a walk takes them. No conditions beyond those that each theorem states. -/
import Derived.Test.YthfdoggncbcmjaaGreatGe

set_option linter.unusedSimpArgs false
set_option linter.unusedVariables false
set_option linter.unusedSectionVars false

namespace Go.Ev

theorem upd_eq (f : Nat → AV) (d : Nat) (v : AV) (i : Nat) : upd f d v i = if i = d then v else f i := by
  by_cases h : i = d
  · subst h; rw [upd_same, if_pos rfl]
  · rw [upd_other _ _ h, if_neg h]

/-- An operation that yields a value. -/
theorem AOps.v {P : Program} {ro : Option Nat} {all : List Oper} {o : Oper} {l : List Oper} {f : Nat → AV} {n : Nat} {h h' : H} {ds : List ADf} {K : FSt → Prop} {d : Nat} {op : Op} {v : AV} (hop : o.op = op) (hdst : o.dst = some d) (hw : wantedF all f n o = some true) (hnd : noDefer op = true) (hd : Nat.blt d n = true)
    (ho : opA P (trOf f n) h op = some [(some v, h')]) (hk : AOps P ro all l ⟨upd f d v, n, h', ds⟩ K) : AOps P ro all (o :: l) ⟨f, n, h, ds⟩ K := by
  refine .cons hw (.run (by rw [hop]; exact hnd) (by rw [hdst]; exact hd) (by rw [hop]; exact ho) ?_)
  intro x hx
  rw [List.mem_singleton.1 hx, hdst]
  exact hk

/-- An operation that yields nothing. -/
theorem AOps.u {P : Program} {ro : Option Nat} {all : List Oper} {o : Oper} {l : List Oper} {f : Nat → AV} {n : Nat} {h h' : H} {ds : List ADf} {K : FSt → Prop} {op : Op} (hop : o.op = op) (hdst : o.dst = none) (hw : wantedF all f n o = some true) (hnd : noDefer op = true)
    {r : Option AV} (ho : opA P (trOf f n) h op = some [(r, h')]) (hk : AOps P ro all l ⟨f, n, h', ds⟩ K) : AOps P ro all (o :: l) ⟨f, n, h, ds⟩ K := by
  refine .cons hw (.run (by rw [hop]; exact hnd) (by rw [hdst]; rfl) (by rw [hop]; exact ho) ?_)
  intro x hx
  rw [List.mem_singleton.1 hx, hdst]
  exact hk

/-- An operation that is not wanted. -/
theorem AOps.s {P : Program} {ro : Option Nat} {all : List Oper} {o : Oper} {l : List Oper} {f : Nat → AV} {n : Nat} {h : H} {ds : List ADf} {K : FSt → Prop} {d : Nat} (hdst : o.dst = some d) (hw : wantedF all f n o = some false) (hd : Nat.blt d n = true)
    (hk : AOps P ro all l ⟨upd f d und, n, h, ds⟩ K) : AOps P ro all (o :: l) ⟨f, n, h, ds⟩ K := by
  refine .skip hw (by rw [hdst]; exact hd) ?_
  rw [hdst]; exact hk

/-- A call. -/
theorem AOps.c {P : Program} {ro : Option Nat} {all : List Oper} {o : Oper} {l : List Oper} {f : Nat → AV} {n : Nat} {h : H} {ds : List ADf} {K : FSt → Prop} {d : Nat} {c : Call} {g : Fn} {xs cap ys : List AV} {Q : AV → H → Prop} (hop : o.op = .call c) (hdst : o.dst = some d) (hw : wantedF all f n o = some true) (hdy : isDyn (.call c) = true) (hd : Nat.blt d n = true)
    (hc : callOf P (trOf f n) c = some (g, xs, cap)) (hys : xs ++ cap = ys) (hq : ACalls P g ys h Q) (hk : ∀ v h', Q v h' → AOps P ro all l ⟨upd f d v, n, h', ds⟩ K) : AOps P ro all (o :: l) ⟨f, n, h, ds⟩ K := by
  subst hys
  refine .cons hw (.call hop hdy (by rw [hdst]; exact hd) hc hq ?_)
  intro v h' hv
  rw [hdst]
  exact hk v h' hv

theorem leI_eq (a b : Int) : leI a b = decide (a ≤ b) := by
  unfold leI
  rcases hb : b - a with m | m
  · have h2 : b - a = (m : Int) := hb
    have : a ≤ b := by omega
    simp [this]
  · have h2 : b - a = -((m : Int) + 1) := by rw [hb, Int.negSucc_eq]
    have : ¬ a ≤ b := by omega
    simp [this]

theorem not_le (a b : Int) : (!decide (a ≤ b)) = decide (b < a) := by
  by_cases h : a ≤ b
  · have : ¬ b < a := by omega
    simp [h, this]
  · have : b < a := by omega
    simp [h, this]

theorem eqI_eq (a b : Int) : eqI a b = decide (a = b) := by
  unfold eqI
  rw [leI_eq, leI_eq]
  by_cases h : a = b
  · subst h; simp
  · have : ¬ (a ≤ b ∧ b ≤ a) := by omega
    simp only [h, decide_false]
    by_cases h1 : a ≤ b
    · have : ¬ b ≤ a := by omega
      simp [this]
    · simp [h1]

theorem eqL_eq : ∀ (a b : List Nat), eqL a b = decide (a = b)
  | [], [] => rfl
  | [], _ :: _ => rfl
  | _ :: _, [] => rfl
  | x :: a, y :: b => by
    have := eqL_eq a b
    simp only [eqL, this]
    by_cases h : x = y
    · subst h; simp
    · have : Nat.beq x y = false := by
        cases hb : Nat.beq x y
        · rfl
        · exact absurd (beqN hb) h
      simp [this, h]

theorem bin_lss {P : Program} {t : TypeId} {a b : Int} {k : IntKind} (hk : kEq k k = true) : binA P .lss t (.int k a) (.int k b) = some (.bool (decide (a < b))) := by
  simp only [binA, hk, cond_tt, cmpA, leI_eq, not_le]
theorem bin_leq {P : Program} {t : TypeId} {a b : Int} {k : IntKind} (hk : kEq k k = true) : binA P .leq t (.int k a) (.int k b) = some (.bool (decide (a ≤ b))) := by
  simp only [binA, hk, cond_tt, cmpA, leI_eq]
theorem bin_gtr {P : Program} {t : TypeId} {a b : Int} {k : IntKind} (hk : kEq k k = true) : binA P .gtr t (.int k a) (.int k b) = some (.bool (decide (b < a))) := by
  simp only [binA, hk, cond_tt, cmpA, leI_eq, not_le]
theorem bin_geq {P : Program} {t : TypeId} {a b : Int} {k : IntKind} (hk : kEq k k = true) : binA P .geq t (.int k a) (.int k b) = some (.bool (decide (b ≤ a))) := by
  simp only [binA, hk, cond_tt, cmpA, leI_eq]
theorem bin_eql {P : Program} {t : TypeId} {a b : Int} {k : IntKind} (hk : kEq k k = true) : binA P .eql t (.int k a) (.int k b) = some (.bool (decide (a = b))) := by
  simp only [binA, hk, cond_tt, cmpA, eqI_eq]
theorem bin_neq {P : Program} {t : TypeId} {a b : Int} {k : IntKind} (hk : kEq k k = true) : binA P .neq t (.int k a) (.int k b) = some (.bool (!decide (a = b))) := by
  simp only [binA, hk, cond_tt, cmpA, eqI_eq]
theorem bin_add {P : Program} {t : TypeId} {a b : Int} (h : -9223372036854775808 ≤ a + b ∧ a + b ≤ 9223372036854775807) : binA P .add t (.int .i64 a) (.int .i64 b) = some (.int .i64 (a + b)) := by
  have h1 : (leI (-9223372036854775808) (a + b) && leI (a + b) 9223372036854775807) = true := by
    rw [leI_eq, leI_eq]; simp [h.1, h.2]
  simp only [binA, kEq, cond_tt, wrapA, loK, hiK, h1]
theorem bin_sub {P : Program} {t : TypeId} {a b : Int} (h : -9223372036854775808 ≤ a - b ∧ a - b ≤ 9223372036854775807) : binA P .sub t (.int .i64 a) (.int .i64 b) = some (.int .i64 (a - b)) := by
  have h1 : (leI (-9223372036854775808) (a - b) && leI (a - b) 9223372036854775807) = true := by
    rw [leI_eq, leI_eq]; simp [h.1, h.2]
  simp only [binA, kEq, cond_tt, wrapA, loK, hiK, h1]
theorem bin_mul {P : Program} {t : TypeId} {a b : Int} (h : -9223372036854775808 ≤ a * b ∧ a * b ≤ 9223372036854775807) : binA P .mul t (.int .i64 a) (.int .i64 b) = some (.int .i64 (a * b)) := by
  have h1 : (leI (-9223372036854775808) (a * b) && leI (a * b) 9223372036854775807) = true := by
    rw [leI_eq, leI_eq]; simp [h.1, h.2]
  simp only [binA, kEq, cond_tt, wrapA, loK, hiK, h1]
theorem bin_seql {P : Program} {t : TypeId} {a b : List Nat} : binA P .eql t (.str a) (.str b) = some (.bool (decide (a = b))) := by
  simp only [binA, eqL_eq]
theorem bin_sneq {P : Program} {t : TypeId} {a b : List Nat} : binA P .neq t (.str a) (.str b) = some (.bool (!decide (a = b))) := by
  simp only [binA, eqL_eq]
theorem bin_slss {P : Program} {t : TypeId} {a b : List Nat} : binA P .lss t (.str a) (.str b) = some (.bool (ltL a b)) := rfl
theorem bin_sgtr {P : Program} {t : TypeId} {a b : List Nat} : binA P .gtr t (.str a) (.str b) = some (.bool (!(ltL a b || eqL a b))) := rfl
theorem bin_sgeq {P : Program} {t : TypeId} {a b : List Nat} : binA P .geq t (.str a) (.str b) = some (.bool (!ltL a b)) := rfl
theorem bin_sleq {P : Program} {t : TypeId} {a b : List Nat} : binA P .leq t (.str a) (.str b) = some (.bool (ltL a b || eqL a b)) := rfl

theorem k_i64 : kEq .i64 .i64 = true := rfl
theorem k_u8 : kEq .u8 .u8 = true := rfl

/-! ### What one operation yields -/

section
variable {P : Program} {t : Tr AV} {h : H}
theorem op_move {x : Operand} : opA P t h (.move x) = (ev t x).map fun v => [(some v, h)] := rfl
theorem op_assign {x : Operand} : opA P t h (.assign x) = (ev t x).map fun v => [(some v, h)] := rfl
noncomputable def pickOf (c a b : Option AV) : Option AV := match c, a, b with
  | some (.bool z), some x, some y => some (_root_.cond z x y)
  | _, _, _ => none
theorem op_pick {c a b : Operand} : opA P t h (.pick c a b) = (pickOf (ev t c) (ev t a) (ev t b)).map fun v => [(some v, h)] := by
  simp only [opA]
  unfold pickOf
  cases ha : ev t a <;> cases hb : ev t b <;> cases hc : ev t c <;> (try rfl)
  · rename_i z; cases z <;> rfl
  · rename_i z; cases z <;> rfl
  · rename_i z; cases z <;> rfl
  · rename_i z
    cases z <;> (try rfl)
    rename_i b; cases b <;> rfl
theorem pick_some {z : Bool} {x y : AV} : pickOf (some (.bool z)) (some x) (some y) = some (_root_.cond z x y) := rfl
theorem op_alloc {e : TypeId} : opA P t h (.alloc e) = (zeroA P e).map fun z => [(some (.ptr (some (h.next, 0))), { h.lay h.next (.cells z.cells h.next) with next := h.next + 1 })] := by
  simp only [opA, allocA]
  cases zeroA P e <;> rfl
theorem op_box {e : TypeId} {x : Operand} : opA P t h (.box e x) = (ev t x).map fun v => [(some (.ptr (some (h.next, 0))), { h.lay h.next (.cells v.cells h.next) with next := h.next + 1 })] := by
  simp only [opA, allocA]
  cases ev t x <;> rfl
theorem op_makeMap {tt : TypeId} : opA P t h (.makeMap tt none) = some [(some (.map (some h.next)), { h.lay h.next (.map [] 0) with next := h.next + 1 })] := rfl
theorem op_buildSlice {tt : TypeId} {n : Nat} {ps : Array (Nat × Operand)} : opA P t h (.buildSlice tt n ps) = ((partsA t ps.toList).bind fun ps => (buildSliceA P tt n ps).map fun q => ((.slice (some (h.next, 0)) n q.1 (some n), .cells q.2 h.next) : AV × AO)).map fun x => [(some x.1, { h.lay h.next x.2 with next := h.next + 1 })] := by
  simp only [opA, allocA]
  cases hp : partsA t ps.toList with
  | none => rfl
  | some l => cases hb : buildSliceA P tt n l <;> simp [hb]
theorem op_build {tt : TypeId} {ps : Array (Nat × Operand)} : opA P t h (.build tt ps) = ((partsA t ps.toList).bind fun ps => buildA P tt ps).map fun v => [(some v, h)] := rfl
noncomputable def loadOf (P : Program) (h : H) (tt : TypeId) : Option AV → Option AV
  | some (.ptr (some (id, off))) => h.load P tt id off
  | _ => none
theorem op_load {tt : TypeId} {a : Operand} : opA P t h (.load tt a) = (loadOf P h tt (ev t a)).map fun v => [(some v, h)] := by
  simp only [opA]
  cases ev t a with
  | none => rfl
  | some v => cases v <;> (try rfl); rename_i o; rcases o with _ | ⟨id, off⟩ <;> rfl
theorem load_some {tt : TypeId} {id off : Nat} : loadOf P h tt (some (.ptr (some (id, off)))) = h.load P tt id off := rfl
noncomputable def storeOf (P : Program) (h : H) (tt : TypeId) : Option AV → Option AV → Option H
  | some (.ptr (some (id, off))), some x => h.storeVar P tt id off x
  | _, _ => none
theorem op_store {tt : TypeId} {a x : Operand} : opA P t h (.store tt a x) = (storeOf P h tt (ev t a) (ev t x)).map fun h => [(none, h)] := by
  simp only [opA]
  cases ev t a with
  | none => rfl
  | some v => cases v <;> (try rfl); rename_i o; rcases o with _ | ⟨id, off⟩ <;> (try rfl); cases ev t x <;> rfl
theorem store_some {tt : TypeId} {id off : Nat} {x : AV} : storeOf P h tt (some (.ptr (some (id, off)))) (some x) = h.storeVar P tt id off x := rfl
theorem op_bin {op : BinOp} {xt yt : TypeId} {x y : Operand} : opA P t h (.binOp op xt x y yt) = ((ev t x).bind fun x => (ev t y).bind fun y => binA P op xt x y).map fun v => [(some v, h)] := rfl
theorem op_un {op : UnOp} {xt : TypeId} {x : Operand} : opA P t h (.unOp op xt x) = ((ev t x).bind (unA op)).map fun v => [(some v, h)] := rfl
theorem un_not {b : Bool} : unA .not (.bool b) = some (.bool (!b)) := rfl
theorem op_conv {s d : TypeId} {x : Operand} : opA P t h (.convert s d x) = ((ev t x).bind (convA P s d)).map fun v => [(some v, h)] := rfl
theorem op_fieldAddr {s : TypeId} {x : Operand} {f : Nat} : opA P t h (.fieldAddr s x f) = ((ev t x).bind fun x => fieldAddrA P s x f).map fun v => [(some v, h)] := rfl
theorem op_field {s : TypeId} {x : Operand} {f : Nat} : opA P t h (.field s x f) = ((ev t x).bind fun x => fieldA P s x f).map fun v => [(some v, h)] := rfl
theorem op_indexAddr {s : TypeId} {x i : Operand} : opA P t h (.indexAddr s x i) = ((ev t x).bind fun x => (ev t i).bind fun i => indexAddrA P s x i).map fun v => [(some v, h)] := rfl
theorem op_index {s : TypeId} {x i : Operand} : opA P t h (.index s x i) = ((ev t x).bind fun x => (ev t i).bind fun i => indexA P s x i).map fun v => [(some v, h)] := rfl
theorem op_slice {tt : TypeId} {x : Operand} {lo hi mx : Option Operand} : opA P t h (.slice tt x lo hi mx) = ((ev t x).bind fun x => (evo t lo).bind fun lo => (evo t hi).bind fun hi => (evo t mx).bind fun mx => sliceA P h tt x lo hi mx).map fun v => [(some v, h)] := rfl
theorem op_lookup {tt : TypeId} {x k : Operand} {ok : Bool} : opA P t h (.lookup tt x k ok) = ((ev t x).bind fun x => (ev t k).bind fun k => lookupA P h tt x k ok).map fun v => [(some v, h)] := rfl
theorem op_mapUpdate {tt : TypeId} {m k x : Operand} : opA P t h (.mapUpdate tt m k x) = ((ev t m).bind fun m => (ev t k).bind fun k => (ev t x).bind fun x => mapUpdateA P h tt m k x).map fun h => [(none, h)] := rfl
theorem op_mapEntry {tt : TypeId} {m k : Operand} : opA P t h (.mapEntry tt m k) = ((ev t m).bind fun m => (ev t k).bind fun k => mapEntryA P h tt m k).map fun x => [(some x.1, x.2)] := rfl
theorem op_entryStore {tt : TypeId} {m s x : Operand} : opA P t h (.entryStore tt m s x) = ((ev t m).bind fun m => (ev t s).bind fun s => (ev t x).bind fun x => entryStoreA h m s x).map fun h => [(none, h)] := rfl
theorem op_range {tt : TypeId} {x : Operand} : opA P t h (.range tt x) = ((ev t x).bind fun x => rangeA P h tt x).map fun x => [(some x.1, x.2)] := rfl
theorem op_entry {x : Operand} : opA P t h (.entry x) = ((ev t x).bind fun x => entryA h x).map fun v => [(some v, h)] := rfl
noncomputable def extractOf (i : Nat) : Option AV → Option AV
  | some (.tup vs) => vs[i]?
  | _ => none
theorem op_extract {x : Operand} {i : Nat} : opA P t h (.extract x i) = (extractOf i (ev t x)).map fun v => [(some v, h)] := by
  simp only [opA]
  cases ev t x with
  | none => rfl
  | some v => cases v <;> rfl
theorem extract_0 {a : AV} {l : List AV} : extractOf 0 (some (.tup (a :: l))) = some a := rfl
theorem extract_1 {a b : AV} {l : List AV} : extractOf 1 (some (.tup (a :: b :: l))) = some b := rfl
theorem extract_2 {a b c : AV} {l : List AV} : extractOf 2 (some (.tup (a :: b :: c :: l))) = some c := rfl
theorem op_iface {xt : TypeId} {x : Operand} {d : TypeDesc} (hd : P.underlying xt = some d) (hi : (match d with | .interface _ => false | _ => true) = true) : opA P t h (.makeInterface xt x) = (ev t x).map fun v => [(some (.iface xt v), h)] := by
  simp only [opA, hd]
  cases d <;> first | (simp at hi; done) | (cases ev t x <;> rfl)
theorem op_func {g : FuncId} {first cap : Array Operand} : opA P t h (.makeFunc (.func g) first cap) = ((evs t first.toList).bind fun a => (evs t cap.toList).map fun b => AV.fn (.func g) a b).map fun v => [(some v, h)] := rfl
theorem op_builtin {b : Builtin} {as : Array Operand} {ats : Array TypeId} : opA P t h (.call { callee := .builtin b, args := as, argTypes := ats }) = ((evs t as.toList).bind fun xs => builtinA P h b ats.toList xs).map fun x => [(some x.1, x.2)] := rfl
theorem bi_len {tt : TypeId} {l : List TypeId} {x : AV} : builtinA P h .len (tt :: l) [x] = (lenA P h tt x).map fun v => (v, h) := rfl
theorem bi_append {st xt : TypeId} {l : List TypeId} {x y : AV} : builtinA P h .append (st :: xt :: l) [x, y] = appendA P h st xt x y := rfl
theorem len_slice {tt e : TypeId} (hu : P.underlying tt = some (.slice e)) {o : Option (Nat × Nat)} {n es : Nat} {c : Option Nat} : lenA P h tt (.slice o n es c) = some (.int .i64 (n : Int)) := by
  simp only [lenA, hu, Option.map_some, Int.ofNat_eq_natCast]
theorem len_str {tt : TypeId} (hu : P.underlying tt = some .string) {s : List Nat} : lenA P h tt (.str s) = some (.int .i64 (s.length : Int)) := by
  simp only [lenA, hu, Option.map_some, Int.ofNat_eq_natCast]
end

/-! ### The ends of a walk; frames at the start -/

def f00 : Nat → AV := fun _ => und

theorem argF0 : argF [] = f00 := by funext i; simp [argF, f00]
theorem argF_snoc (l : List AV) (a : AV) : argF (l ++ [a]) = upd (argF l) l.length a := by
  funext i
  rw [upd_eq]
  unfold argF
  by_cases h : i = l.length
  · subst h; simp
  · rw [if_neg h]
    by_cases h2 : i < l.length
    · rw [List.getElem?_append_left h2]
    · rw [List.getElem?_eq_none (by simp; omega), List.getElem?_eq_none (by omega)]

theorem argF1 (a : AV) : argF [a] = upd f00 0 a := by rw [← argF0]; exact argF_snoc [] a
theorem argF2 (a b : AV) : argF [a, b] = upd (upd f00 0 a) 1 b := by rw [← argF1]; exact argF_snoc [a] b
theorem argF3 (a b c : AV) : argF [a, b, c] = upd (upd (upd f00 0 a) 1 b) 2 c := by rw [← argF2]; exact argF_snoc [a, b] c
theorem argF4 (a b c d : AV) : argF [a, b, c, d] = upd (upd (upd (upd f00 0 a) 1 b) 2 c) 3 d := by rw [← argF3]; exact argF_snoc [a, b, c] d
theorem argF5 (a b c d e : AV) : argF [a, b, c, d, e] = upd (upd (upd (upd (upd f00 0 a) 1 b) 2 c) 3 d) 4 e := by rw [← argF4]; exact argF_snoc [a, b, c, d] e
theorem argF6 (a b c d e g : AV) : argF [a, b, c, d, e, g] = upd (upd (upd (upd (upd (upd f00 0 a) 1 b) 2 c) 3 d) 4 e) 5 g := by rw [← argF5]; exact argF_snoc [a, b, c, d, e] g

theorem evs_nil (t : Tr AV) : evs t [] = some [] := rfl
theorem evs_cons (t : Tr AV) (x : Operand) (l : List Operand) : evs t (x :: l) = (ev t x).bind fun a => (evs t l).map fun b => a :: b := by
  simp only [evs, List.mapM_cons]
  cases ev t x with
  | none => rfl
  | some a => cases h : List.mapM (ev t) l <;> simp_all
theorem partsA_nil (t : Tr AV) : partsA t [] = some [] := rfl
theorem partsA_cons (t : Tr AV) (i : Nat) (x : Operand) (l : List (Nat × Operand)) : partsA t ((i, x) :: l) = (ev t x).bind fun a => (partsA t l).map fun b => (i, a) :: b := by
  simp only [partsA, List.mapM_cons]
  cases ev t x with
  | none => rfl
  | some a => cases h : List.mapM (fun p : Nat × Operand => Option.map (fun v => (p.1, v)) (ev t p.2)) l <;> simp_all

theorem callOf_func {P : Program} {t : Tr AV} {g : FuncId} {as : Array Operand} {ats : Array TypeId} : callOf P t { callee := .value (.func g), args := as, argTypes := ats } = (evs t as.toList).map fun xs => (.func g, xs, []) := rfl

/-- A plain result: the heap is as it was. -/
theorem leaves_plain {P : Program} {fn : Func} {h h'' : H} {Q : AV → H → Prop} {e : Ex} {f : Nat → AV} {n : Nat} {v : AV} (he : endsOk e = true) (hr : resultsA P (trOf f n) h'' fn.results.toList = some v) (hp : ∀ h1, canonV h1 h.next 3 v [] [] = some (v, [], [])) (hl : h''.low = h.next) (hq : Q v h) : Lv P fn h Q e ⟨f, n, h'', []⟩ :=
  ⟨he, h'', rfl, v, hr, .inr ⟨v, [], [], hp _, hl, hq⟩⟩

theorem canon_bool (h : H) (lo : Nat) (b : Bool) : canonV h lo 3 (.bool b) [] [] = some (.bool b, [], []) := rfl
theorem canon_int (h : H) (lo : Nat) (k : IntKind) (b : Int) : canonV h lo 3 (.int k b) [] [] = some (.int k b, [], []) := rfl
theorem canon_str (h : H) (lo : Nat) (b : List Nat) : canonV h lo 3 (.str b) [] [] = some (.str b, [], []) := rfl

/-! ### Frames that are known in part -/

def Has (f : Nat → AV) : List (Nat × AV) → Prop
  | [] => True
  | (d, v) :: l => f d = v ∧ Has f l
def updL (f : Nat → AV) : List (Nat × AV) → (Nat → AV)
  | [] => f
  | (d, v) :: l => upd (updL f l) d v

theorem upd_self {f : Nat → AV} {d : Nat} {v : AV} (h : f d = v) : upd f d v = f := by
  funext i
  rw [upd_eq]
  by_cases e : i = d
  · rw [if_pos e, e, h]
  · rw [if_neg e]

theorem Has.eq {f : Nat → AV} : ∀ {l : List (Nat × AV)}, Has f l → updL f l = f
  | [], _ => rfl
  | (d, v) :: l, h => by
    unfold updL
    rw [Has.eq h.2]
    exact upd_self h.1

structure Fr (st : FSt) (l : List (Nat × AV)) (n : Nat) (h : H) (ds : List ADf) : Prop where
  hn : st.n = n
  hh : st.h = h
  hd : st.ds = ds
  hf : Has st.f l

theorem Fr.open {st : FSt} {l : List (Nat × AV)} {n : Nat} {h : H} {ds : List ADf} (hF : Fr st l n h ds) : ∃ f, st = ⟨updL f l, n, h, ds⟩ := by
  obtain ⟨f, n', h', ds'⟩ := st
  obtain ⟨e1, e2, e3, e4⟩ := hF
  simp only at e1 e2 e3 e4
  subst e1; subst e2; subst e3
  exact ⟨f, by rw [e4.eq]⟩

/-! ### Small words for a walk -/

theorem natOf_cast (k : IntKind) (n : Nat) : natOf (.int k (n : Int)) = some n := rfl
theorem natOf_0 (k : IntKind) : natOf (.int k 0) = some 0 := rfl

section
variable {P : Program} {h : H}
theorem idx_str {tt : TypeId} (hu : P.underlying tt = some .string) {s : List Nat} {k : IntKind} {i b : Nat} (hi : s[i]? = some b) : indexA P tt (.str s) (.int k (i : Int)) = some (.int .u8 (b : Int)) := by
  simp only [indexA, natOf_cast, Option.bind_some, hu, hi, Option.map_some, Int.ofNat_eq_natCast]
theorem iaddr_slice {tt e s : TypeId} (hu : P.underlying tt = some (.slice e)) (hs : sizeA P e = some s) {id off len : Nat} {cap : Option Nat} {k : IntKind} {i : Nat} (hi : i < len) : indexAddrA P tt (.slice (some (id, off)) len s cap) (.int k (i : Int)) = some (.ptr (some (id, off + i * s))) := by
  have h1 : (Nat.blt i len && Nat.beq s s) = true := by
    have : Nat.blt i len = true := Nat.ble_eq_true_of_le hi
    simp [this]
  simp only [indexAddrA, natOf_cast, Option.bind_some, hu, hs, h1, cond_tt]
theorem iaddr_array {tt e s n : Nat} (hu : P.underlying tt = some (.array n e)) (hs : sizeA P e = some s) {id off : Nat} {k : IntKind} {i : Nat} (hi : i < n) : indexAddrA P tt (.ptr (some (id, off))) (.int k (i : Int)) = some (.ptr (some (id, off + i * s))) := by
  have h1 : Nat.blt i n = true := Nat.ble_eq_true_of_le hi
  simp only [indexAddrA, natOf_cast, Option.bind_some, hu, hs, h1, cond_tt]
theorem faddr {s : TypeId} {fs : Array Field} (hu : P.underlying s = some (.struct fs)) {f : Nat} {fd : Field} (hf : fs[f]? = some fd) {n : Nat} (hn : sizeA P fd.type = some n) (h0 : Nat.beq n 0 = false) {id off : Nat} : fieldAddrA P s (.ptr (some (id, off))) f = some (.ptr (some (id, off + fd.offset))) := by
  simp only [fieldAddrA, hu, hf, Option.bind_some, hn, h0, cond_ff]
end

theorem dec_ble (a b : Nat) : decide ((a : Int) ≤ (b : Int)) = Nat.ble a b := by
  by_cases h : a ≤ b
  · have : (a : Int) ≤ b := by omega
    simp [this, Nble h]
  · have h2 : ¬ (a : Int) ≤ b := by omega
    have : Nat.ble a b = false := by
      cases hb : Nat.ble a b
      · rfl
      · exact absurd (bleN hb) h
    simp [h2, this]
theorem dec_beq (a b : Nat) : decide ((a : Int) = (b : Int)) = Nat.beq a b := by
  by_cases h : a = b
  · subst h; simp
  · have h2 : ¬ (a : Int) = b := by omega
    have : Nat.beq a b = false := by
      cases hb : Nat.beq a b
      · rfl
      · exact absurd (beqN hb) h
    simp [h2, this]

theorem AWp.yes {P : Program} {ro : Option Nat} {i : Nat} {x y : Code} {f : Nat → AV} {n : Nat} {h : H} {ds : List ADf} {Q : Ex → FSt → Prop} (hi : Nat.blt i n = true) (hv : f i = .bool true) (hk : AWp P ro x ⟨f, n, h, ds⟩ Q) : AWp P ro (.cond (.tmp i) x y) ⟨f, n, h, ds⟩ Q :=
  AWp.cond (b := true) ((ev_tmp (bltN hi)).trans (congrArg some hv)) (fun _ => hk) (fun h => by cases h)
theorem AWp.no {P : Program} {ro : Option Nat} {i : Nat} {x y : Code} {f : Nat → AV} {n : Nat} {h : H} {ds : List ADf} {Q : Ex → FSt → Prop} (hi : Nat.blt i n = true) (hv : f i = .bool false) (hk : AWp P ro y ⟨f, n, h, ds⟩ Q) : AWp P ro (.cond (.tmp i) x y) ⟨f, n, h, ds⟩ Q :=
  AWp.cond (b := false) ((ev_tmp (bltN hi)).trans (congrArg some hv)) (fun h => by cases h) (fun _ => hk)

end Go.Ev

/- A region that draws its order, walked in the order of the text. No conditions beyond those that each theorem states. -/
namespace Go.Ev

/-! ### An operation looks at its operands alone -/

theorem evs_congr {t t' : Tr AV} : ∀ (l : List Operand), (∀ x ∈ l, ev t x = ev t' x) → evs t l = evs t' l
  | [], _ => rfl
  | x :: l, h => by
    rw [evs_cons, evs_cons, h x (List.mem_cons_self ..), evs_congr l fun y hy => h y (List.mem_cons_of_mem _ hy)]

theorem partsA_congr {t t' : Tr AV} : ∀ (l : List (Nat × Operand)), (∀ x ∈ l.map (·.2), ev t x = ev t' x) → partsA t l = partsA t' l
  | [], _ => rfl
  | (i, x) :: l, h => by
    rw [partsA_cons, partsA_cons, h x (by simp), partsA_congr l fun y hy => h y (by simp at hy ⊢; exact .inr hy)]

theorem evo_congr {t t' : Tr AV} (o : Option Operand) (h : ∀ x ∈ o, ev t x = ev t' x) : evo t o = evo t' o := by
  cases o with
  | none => rfl
  | some x => simp only [evo, h x rfl]

theorem allocA_congr {P : Program} {t t' : Tr AV} {op : Op} {id : Nat} (h : ∀ x ∈ op.operands, ev t x = ev t' x) : allocA P t op id = allocA P t' op id := by
  cases op with
  | box e x => simp only [allocA, h x (by simp [Op.operands])]
  | buildSlice tt n ps => simp only [allocA]; rw [partsA_congr ps.toList fun x hx => h x (by simp [Op.operands] at hx ⊢; exact hx)]
  | makeMap tt r =>
    cases r with
    | none => rfl
    | some x => simp only [allocA, h x (by simp [Op.operands])]
  | makeSlice tt l c => simp only [allocA, h l (by simp [Op.operands]), h c (by simp [Op.operands])]
  | _ => rfl

theorem opA_congr {P : Program} {t t' : Tr AV} {h : H} {op : Op} (hx : ∀ x ∈ op.operands, ev t x = ev t' x) : opA P t h op = opA P t' h op := by
  cases op with
  | move x => simp only [opA, hx x (by simp [Op.operands])]
  | assign x => simp only [opA, hx x (by simp [Op.operands])]
  | pick c a b => simp only [opA, hx a (by simp [Op.operands]), hx b (by simp [Op.operands]), hx c (by simp [Op.operands])]
  | alloc e => simp only [opA, allocA_congr hx]
  | box e x => simp only [opA, allocA_congr hx]
  | buildSlice tt n ps => simp only [opA, allocA_congr hx]
  | makeMap tt r => simp only [opA, allocA_congr hx]
  | makeSlice tt l c => simp only [opA, allocA_congr hx]
  | build tt ps => simp only [opA]; rw [partsA_congr ps.toList fun x h => hx x (by simp [Op.operands] at h ⊢; exact h)]
  | load tt a => simp only [opA, hx a (by simp [Op.operands])]
  | store tt a x => simp only [opA, hx a (by simp [Op.operands]), hx x (by simp [Op.operands])]
  | nilCheck x => simp only [opA, hx x (by simp [Op.operands])]
  | binOp op xt x y yt => simp only [opA, hx x (by simp [Op.operands]), hx y (by simp [Op.operands])]
  | unOp op xt x => simp only [opA, hx x (by simp [Op.operands])]
  | convert s d x => simp only [opA, hx x (by simp [Op.operands])]
  | makeInterface xt x => simp only [opA, hx x (by simp [Op.operands])]
  | makeFunc f first cap =>
    have h1 := evs_congr first.toList fun x h => hx x (by simp [Op.operands] at h ⊢; exact .inl h)
    have h2 := evs_congr cap.toList fun x h => hx x (by simp [Op.operands] at h ⊢; exact .inr h)
    simp only [opA, h1, h2]
  | slice tt x lo hi mx =>
    have h1 := evo_congr lo fun y h => hx y (by cases h; simp [Op.operands])
    have h2 := evo_congr hi fun y h => hx y (by cases h; simp [Op.operands])
    have h3 := evo_congr mx fun y h => hx y (by cases h; simp [Op.operands])
    simp only [opA, hx x (by simp [Op.operands]), h1, h2, h3]
  | fieldAddr s x f => simp only [opA, hx x (by simp [Op.operands])]
  | field s x f => simp only [opA, hx x (by simp [Op.operands])]
  | indexAddr tt x i => simp only [opA, hx x (by simp [Op.operands]), hx i (by simp [Op.operands])]
  | index tt x i => simp only [opA, hx x (by simp [Op.operands]), hx i (by simp [Op.operands])]
  | lookup tt x k ok => simp only [opA, hx x (by simp [Op.operands]), hx k (by simp [Op.operands])]
  | mapUpdate tt m k x => simp only [opA, hx m (by simp [Op.operands]), hx k (by simp [Op.operands]), hx x (by simp [Op.operands])]
  | insert tt m k x => simp only [opA, hx m (by simp [Op.operands]), hx k (by simp [Op.operands]), hx x (by simp [Op.operands])]
  | mapEntry tt m k => simp only [opA, hx m (by simp [Op.operands]), hx k (by simp [Op.operands])]
  | entryStore tt m k x => simp only [opA, hx m (by simp [Op.operands]), hx k (by simp [Op.operands]), hx x (by simp [Op.operands])]
  | range tt x => simp only [opA, hx x (by simp [Op.operands])]
  | next it s => simp only [opA, hx it (by simp [Op.operands])]
  | entry it => simp only [opA, hx it (by simp [Op.operands])]
  | extract x i => simp only [opA, hx x (by simp [Op.operands])]
  | typeAssert x a b ok => simp only [opA, hx x (by simp [Op.operands])]
  | call c =>
    obtain ⟨callee, args, ats⟩ := c
    cases callee with
    | builtin b =>
      have h1 := evs_congr args.toList fun x h => hx x (by simp [Op.operands, Call.operands] at h ⊢; exact h)
      simp only [opA, h1]
    | value f => rfl
    | invoke r m => rfl
  | _ => rfl

theorem callOf_congr {P : Program} {t t' : Tr AV} {c : Call} (hx : ∀ x ∈ c.operands, ev t x = ev t' x) : callOf P t c = callOf P t' c := by
  obtain ⟨callee, args, ats⟩ := c
  cases callee with
  | builtin b => rfl
  | value f =>
    have h1 := evs_congr args.toList fun x h => hx x (by simp [Call.operands] at h ⊢; exact .inr h)
    simp only [callOf, hx f (by simp [Call.operands]), h1]
  | invoke r m =>
    have h1 := evs_congr args.toList fun x h => hx x (by simp [Call.operands] at h ⊢; exact .inr h)
    simp only [callOf, hx r (by simp [Call.operands]), h1]

/-! ### The run -/

noncomputable def orU : Option AV → AV
  | some v => v
  | none => und


/-- A trie that holds what a frame holds. -/
def FT (t : Tr AV) (f : Nat → AV) (n : Nat) : Prop := ∀ i, (match t.get i with | some v => v | none => und) = (match (trOf f n).get i with | some v => v | none => und)

theorem FT.put {t : Tr AV} {f : Nat → AV} {n k : Nat} {v : AV} (h : FT t f n) (hk : k < n) : FT (t.put k (some v)) (upd f k v) n := by
  intro i
  rw [put_get]
  by_cases e : i = k
  · subst e; rw [if_pos rfl, trOf_get _ _ _ hk, upd_same]
  · rw [if_neg e, h i]
    by_cases hi : i < n
    · rw [trOf_get _ _ _ hi, trOf_get _ _ _ hi, upd_other _ _ e]
    · rw [trOf_out _ _ _ (by omega), trOf_out _ _ _ (by omega)]

theorem FT.ev {t : Tr AV} {f : Nat → AV} {n : Nat} (h : FT t f n) {l : List Tmp} {x : Operand} (hl : ∀ i, x = .tmp i → i ∈ l) : Ev.ev (restr t l) x = Ev.ev (trOf f n) x := by
  cases x with
  | tmp i =>
    simp only [Ev.ev]
    rw [restr_get, if_pos (hl i rfl)]
    exact congrArg some (h i)
  | _ => rfl

theorem FT.ops {t : Tr AV} {f : Nat → AV} {n : Nat} (h : FT t f n) {all : List Oper} {o : Oper} : ∀ x ∈ o.op.operands, Ev.ev (restr t (looksA all o)) x = Ev.ev (trOf f n) x := by
  intro x hx
  refine h.ev fun i e => ?_
  subst e
  unfold looksA
  exact List.mem_append_left _ (mem_tmpsOf hx)

theorem FT.wanted {t : Tr AV} {f : Nat → AV} {n : Nat} (h : FT t f n) {all : List Oper} {o : Oper} {b : Bool} (hw : wantedF all f n o = some b) : wantedA all (restr t (looksA all o)) n o = some b := by
  unfold wantedF at hw
  unfold wantedA
  cases hg : o.guard with
  | none => rw [hg] at hw; exact hw
  | some q =>
    obtain ⟨j, want⟩ := q
    rw [hg] at hw
    simp only at hw ⊢
    cases hd : (all[j]?).bind (·.dst) with
    | none => rw [hd] at hw; simp at hw
    | some d =>
      rw [hd] at hw
      simp only at hw ⊢
      obtain ⟨hlt, h2⟩ := cond_some hw
      have hm : d ∈ looksA all o := by
        unfold looksA; rw [hg]; simp only [hd]; simp
      have hi := h d
      rw [trOf_get _ _ _ (bltN hlt)] at hi
      simp only at hi
      rw [hlt, cond_tt, restr_get, if_pos hm]
      cases hgt : t.get d with
      | none =>
        rw [hgt] at hi; simp only at hi
        rw [← hi] at h2
        exact h2
      | some v =>
        rw [hgt] at hi; simp only at hi
        rw [← hi] at h2
        split at h2
        · exact h2
        · exact h2
        · simp at h2

/-- Where a run stands: the frame, the heap, the new objects not yet seen, all new objects, the mask, the phases, the reads. -/
structure Dq where
  f : Nat → AV
  c : H
  xs : List (Nat × AO)
  al : List (Nat × AO)
  m : Nat
  cs : List (Nat × Nat × H)
  rd : List (Nat × (H → R (Option AV × H)) × AV)

structure DR (P : Program) (n : Nat) (d : Dr) (q : Dq) : Prop where
  t : FT d.t q.f n
  c : d.c = q.c
  xs : d.xs = q.xs
  al : d.all = q.al
  m : d.m = q.m
  cs : d.cs = q.cs
  rd : ∀ x ∈ d.reads, ∃ y ∈ q.rd, y.1 = x.1 ∧ (∀ c', opA P x.2.1 c' x.2.2.1 = y.2.1 c') ∧ y.2.2 = x.2.2.2

def DRun (P : Program) (cv : CV) (ro : Option Nat) (base : Nat) (all : List Oper) (ms : List Nat) (n : Nat) (l : List (Nat × Oper)) (q : Dq) (K : Dq → Prop) : Prop :=
  ∀ d, DR P n d q → ∃ d' q', drawRun P cv ro base all ms n l d = some d' ∧ DR P n d' q' ∧ K q'

theorem DRun.nil {P : Program} {cv : CV} {ro : Option Nat} {base : Nat} {all : List Oper} {ms : List Nat} {n : Nat} {q : Dq} {K : Dq → Prop} (h : K q) : DRun P cv ro base all ms n [] q K := fun d hd => ⟨d, q, rfl, hd, h⟩

theorem DR.setD {P : Program} {n : Nat} {d : Dr} {q : Dq} (h : DR P n d q) {dst : Option Tmp} (hd : dstIn dst n = true) (v : AV) : ∃ d1, d.setD n dst v = some d1 ∧ DR P n d1 { q with f := updo q.f dst v } := by
  cases dst with
  | none => exact ⟨d, rfl, h.t, h.c, h.xs, h.al, h.m, h.cs, h.rd⟩
  | some k =>
    have hk : Nat.blt k n = true := hd
    refine ⟨{ d with t := d.t.put k (some v) }, by simp only [Dr.setD, hk, cond_tt], h.t.put (bltN hk), h.c, h.xs, h.al, h.m, h.cs, h.rd⟩

section
variable {P : Program} {cv : CV} {ro : Option Nat} {base : Nat} {all : List Oper} {ms : List Nat} {n i : Nat} {o : Oper} {l : List (Nat × Oper)} {f : Nat → AV} {c c' : H} {xs al : List (Nat × AO)} {m : Nat} {cs : List (Nat × Nat × H)} {rd : List (Nat × (H → R (Option AV × H)) × AV)} {K : Dq → Prop} {op : Op} {d : Nat}

theorem DRun.s (hdst : o.dst = some d) (hw : wantedF all f n o = some false) (hd : Nat.blt d n = true) (hk : DRun P cv ro base all ms n l ⟨upd f d und, c, xs, al, m, cs, rd⟩ K) : DRun P cv ro base all ms n ((i, o) :: l) ⟨f, c, xs, al, m, cs, rd⟩ K := by
  intro d0 hD
  obtain ⟨d1, h1, h2⟩ := hD.setD (dst := o.dst) (by rw [hdst]; exact hd) und
  rw [hdst] at h2
  obtain ⟨d', q', h3, h4⟩ := hk d1 h2
  refine ⟨d', q', ?_, h4⟩
  simp only [drawRun, drawStep, hD.t.wanted hw, h1]
  exact h3

/-- A read. -/
theorem DRun.r {v : AV} {hh : H} (hop : o.op = op) (hdst : o.dst = some d) (hw : wantedF all f n o = some true) (he : isEff op = false) (ha : isAlloc op = false) (hd : Nat.blt d n = true) (ho : opA P (trOf f n) (addX base (ms.getD i 0) xs c) op = some [(some v, hh)])
    (hk : DRun P cv ro base all ms n l ⟨upd f d v, c, xs, al, m, cs, rd ++ [(i, fun c' => opA P (trOf f n) c' op, v)]⟩ K) : DRun P cv ro base all ms n ((i, o) :: l) ⟨f, c, xs, al, m, cs, rd⟩ K := by
  intro d0 hD
  subst hop
  obtain ⟨d1, h1, h2⟩ := hD.setD (dst := o.dst) (by rw [hdst]; exact hd) v
  rw [hdst] at h2
  have hcong : ∀ c', opA P (restr d0.t (looksA all o)) c' o.op = opA P (trOf f n) c' o.op := fun c' => opA_congr hD.t.ops
  obtain ⟨d', q', h3, h4⟩ := hk { d1 with reads := d1.reads ++ [(i, restr d0.t (looksA all o), o.op, v)] } ⟨h2.t, h2.c, h2.xs, h2.al, h2.m, h2.cs, by
    intro x hx
    rcases List.mem_append.1 hx with hx | hx
    · obtain ⟨y, hy, hz⟩ := h2.rd x hx
      exact ⟨y, List.mem_append_left _ hy, hz⟩
    · rw [List.mem_singleton.1 hx]
      exact ⟨_, List.mem_append_right _ (List.mem_singleton.2 rfl), rfl, hcong, rfl⟩⟩
  refine ⟨d', q', ?_, h4⟩
  have hx := hD.xs; have hc := hD.c
  simp only at hx hc
  simp only [drawRun, drawStep, hD.t.wanted hw, he, cond_ff, ha, hx, hc, hcong, ho, h1, Option.map_some]
  exact h3

/-- A new object. -/
theorem DRun.a {v : AV} {ob : AO} (hop : o.op = op) (hdst : o.dst = some d) (hw : wantedF all f n o = some true) (he : isEff op = false) (ha : isAlloc op = true) (hd : Nat.blt d n = true) (ho : allocA P (trOf f n) op (base + i) = some (v, ob))
    (hk : DRun P cv ro base all ms n l ⟨upd f d v, c, xs ++ [(i, ob)], al ++ [(i, ob)], m, cs, rd⟩ K) : DRun P cv ro base all ms n ((i, o) :: l) ⟨f, c, xs, al, m, cs, rd⟩ K := by
  intro d0 hD
  subst hop
  obtain ⟨d1, h1, h2⟩ := hD.setD (dst := o.dst) (by rw [hdst]; exact hd) v
  rw [hdst] at h2
  have hcong : allocA P (restr d0.t (looksA all o)) o.op (base + i) = allocA P (trOf f n) o.op (base + i) := allocA_congr hD.t.ops
  obtain ⟨d', q', h3, h4⟩ := hk { d1 with xs := d1.xs ++ [(i, ob)], all := d1.all ++ [(i, ob)] } ⟨h2.t, h2.c, by simp only [h2.xs], by simp only [h2.al], h2.m, h2.cs, h2.rd⟩
  refine ⟨d', q', ?_, h4⟩
  simp only [drawRun, drawStep, hD.t.wanted hw, he, cond_ff, ha, cond_tt, hcong, ho, h1, Option.map_some]
  exact h3

theorem oneA_plain {r : Tr AV} {h h' : H} {rv : Option AV} (hnd : noDefer o.op = true) (hdy : isDyn o.op = false) (hd : dstIn o.dst n = true) (ho : opA P r h o.op = some [(rv, h')]) :
    ∃ st : St, oneA P cv ro o ⟨r, n, h, []⟩ = some [st] ∧ st.h = h' ∧ ∀ k, o.dst = some k → (st.t.get k).getD und = orU rv := by
  unfold oneA
  split
  · rename_i c hc; rw [hc] at hnd; simp [noDefer] at hnd
  · rw [hdy, cond_ff]
    simp only [ho, bindR, joinR, St.setH]
    cases hdd : o.dst with
    | none => exact ⟨_, rfl, rfl, fun k hk => by cases hk⟩
    | some k =>
      rw [hdd] at hd
      have hk : Nat.blt k n = true := hd
      simp only [St.put, hk, cond_tt, Option.map_some]
      refine ⟨_, rfl, rfl, fun k' hk' => ?_⟩
      cases hk'
      simp only [put_same]
      cases rv <;> rfl

/-- An operation that writes. -/
theorem DRun.e {rv : Option AV} (hop : o.op = op) (hw : wantedF all f n o = some true) (he : isEff op = true) (hnd : noDefer op = true) (hdy : isDyn op = false) (hd : dstIn o.dst n = true) (ho : opA P (trOf f n) (addX base (ms.getD i 0) xs c) op = some [(rv, c')])
    (hk : DRun P cv ro base all ms n l ⟨updo f o.dst (orU rv), c', xs.filter (fun x => !(hasBit (ms.getD i 0) x.1)), al, Nat.lor m (ms.getD i 0), cs ++ [(i, Nat.lor m (ms.getD i 0), c')], rd⟩ K) : DRun P cv ro base all ms n ((i, o) :: l) ⟨f, c, xs, al, m, cs, rd⟩ K := by
  intro d0 hD
  subst hop
  have hcong : ∀ c', opA P (restr d0.t (looksA all o)) c' o.op = opA P (trOf f n) c' o.op := fun c' => opA_congr hD.t.ops
  have hx := hD.xs; have hc := hD.c
  simp only at hx hc
  obtain ⟨st, k1, k2, k3⟩ := oneA_plain (P := P) (cv := cv) (ro := ro) (n := n) hnd hdy hd ((hcong (addX base (ms.getD i 0) xs c)).trans ho)
  have hval : (match o.dst with | some k => (st.t.get k).getD und | none => und) = (match o.dst with | some _ => orU rv | none => und) := by
    cases hdd : o.dst with
    | none => rfl
    | some k => exact k3 k hdd
  obtain ⟨d1, h1, h2⟩ := hD.setD (dst := o.dst) hd (orU rv)
  have h1' : d0.setD n o.dst (match o.dst with | some k => (st.t.get k).getD und | none => und) = some d1 := by
    rw [hval]
    cases hdd : o.dst with
    | none => rw [hdd] at h1; simp only [Dr.setD] at h1 ⊢; exact h1
    | some k => rw [hdd] at h1; exact h1
  have e1 := h2.m; have e2 := h2.cs; have e3 := h2.xs
  simp only at e1 e2 e3
  have g1 : d0.m = m := hD.m
  have g2 : d0.cs = cs := hD.cs
  have g3 : d0.xs = xs := hD.xs
  obtain ⟨d', q', h3, h4⟩ := hk { d1 with c := st.h, xs := xs.filter (fun x => !(hasBit (ms.getD i 0) x.1)), m := Nat.lor m (ms.getD i 0), cs := cs ++ [(i, Nat.lor m (ms.getD i 0), st.h)] } ⟨h2.t, k2, rfl, h2.al, rfl, by rw [k2], h2.rd⟩
  refine ⟨d', q', ?_, h4⟩
  simp only [drawRun, drawStep, hD.t.wanted hw, he, cond_tt, hc, g3, k1]
  generalize hz : d0.setD n o.dst _ = z
  have hz2 : z = some d1 := hz.symm.trans h1'
  subst hz2
  simp only [Option.map_some, e1, e2, e3]
  exact h3

end

/-! ### The reads, phase by phase -/

def phOk (base : Nat) (ms : List Nat) (al : List (Nat × AO)) (i : Nat) (g : H → R (Option AV × H)) (v : AV) : List Nat → Nat → H → List (Nat × Nat × H) → Prop
  | done, m, c, later => (mayRun ms i done (later.map (·.1)) = false ∨ ∃ hh, g (addX base (ms.getD i 0) (al.filter fun x => !(hasBit m x.1)) c) = some [(some v, hh)]) ∧
    match later with
    | [] => True
    | (e, m', c') :: later => phOk base ms al i g v (e :: done) m' c' later

def RdsOk (base : Nat) (ms : List Nat) (q : Dq) (h0 : H) : Prop := ∀ y ∈ q.rd, eqTop 6 y.2.2 y.2.2 = true ∧ phOk base ms q.al y.1 y.2.1 y.2.2 [] 0 h0 q.cs

theorem readOk_of {P : Program} {base : Nat} {ms : List Nat} {al : List (Nat × AO)} {i : Nat} {t : Tr AV} {op : Op} {g : H → R (Option AV × H)} {v : AV} (hg : ∀ c', opA P t c' op = g c') (hv : eqTop 6 v v = true) : ∀ (later : List (Nat × Nat × H)) (done : List Nat) (m : Nat) (c : H),
    phOk base ms al i g v done m c later → readOk P base ms al i t op v done m c later = true
  | [], done, m, c, h => by
    unfold phOk at h
    obtain ⟨h1, _⟩ := h
    unfold readOk
    simp only [hg, Bool.and_true, Bool.or_eq_true]
    rcases h1 with h1 | ⟨hh, h1⟩
    · exact .inl (by rw [h1]; rfl)
    · exact .inr (by rw [h1]; exact hv)
  | (e, m', c') :: later, done, m, c, h => by
    unfold phOk at h
    obtain ⟨h1, h2⟩ := h
    have ih := readOk_of hg hv later (e :: done) m' c' h2
    unfold readOk
    simp only [hg, Bool.and_eq_true, Bool.or_eq_true]
    refine ⟨?_, ih⟩
    rcases h1 with h1 | ⟨hh, h1⟩
    · exact .inl (by rw [h1]; rfl)
    · exact .inr (by rw [h1]; exact hv)

theorem AWp.draws {P : Program} {ro : Option Nat} {id : Nat} {ops : Array Oper} {f : Nat → AV} {n : Nat} {h : H} {ds : List ADf} {Q : Ex → FSt → Prop} {cv : CV} (hcv : CVok P cv) {ol : List Oper} (hol : ops.toList = ol) {L : Nat} (hL : ol.length = L) {ms : List Nat} (hms : masks ol [] = ms) (hok : (drawOk ol && P.follows .mixedOrders) = true)
    (hrun : DRun P cv ro h.next ol ms n (numbered 0 ol) ⟨f, { h with next := h.next + L }, [], [], 0, [], []⟩ fun q => RdsOk h.next ms q { h with next := h.next + L } ∧ Q .normal ⟨q.f, n, addX h.next (2 ^ L - 1) q.xs q.c, ds⟩) : AWp P ro (.region id ops true) ⟨f, n, h, ds⟩ Q := by
  subst hol; subst hL; subst hms
  obtain ⟨d', q, h1, h2, h3, h4⟩ := hrun { t := trOf f n, c := { h with next := h.next + ops.toList.length }, xs := [], all := [], m := 0, cs := [], reads := [] } ⟨fun i => rfl, rfl, rfl, rfl, rfl, rfl, fun x hx => by simp at hx⟩
  have hda : drawA P cv ro ops.toList ⟨trOf f n, n, h, ds⟩ = some { t := d'.t, n := n, h := addX h.next (2 ^ ops.toList.length - 1) d'.xs d'.c, ds := ds } := by
    unfold drawA
    simp only [hok, cond_tt, h1]
    have hr : (d'.reads.all fun x => readOk P h.next (masks ops.toList []) d'.all x.1 x.2.1 x.2.2.1 x.2.2.2 [] 0 { h with next := h.next + ops.toList.length } d'.cs) = true := by
      rw [List.all_eq_true]
      intro x hx
      obtain ⟨y, hy, e1, e2, e3⟩ := h2.rd x hx
      obtain ⟨g1, g2⟩ := h3 y hy
      rw [h2.al, h2.cs, ← e1, ← e3]
      exact readOk_of e2 g1 _ _ _ _ g2
    rw [show (d'.reads.all fun (i, t, op, v) => readOk P h.next (masks ops.toList []) d'.all i t op v [] 0 { h with next := h.next + ops.toList.length } d'.cs) = true from hr, cond_tt]
  refine AWp.draw hcv hda (f' := q.f) ?_ ?_
  · intro i hi
    have := h2.t i
    rw [trOf_get _ _ _ hi] at this
    simp only at this
    rw [← this]
    cases d'.t.get i <;> rfl
  · have e1 := h2.c; have e2 := h2.xs
    simp only [e1, e2]
    exact h4

end Go.Ev

/- Rows of cells, slices of rows: what a read gives. No conditions beyond those that each theorem states. -/
namespace Go.Ev
noncomputable section

def rowA : AO → Option (List AV)
  | .cells cs _ => some cs
  | .ro cs => some cs
  | _ => none
def rowO (o : Tr AO) (id : Nat) : Option (List AV) := (o.get id).bind rowA

def chunkL (cs : List AV) (off n : Nat) : Option (List AV) := cond (Nat.ble (off + n) cs.length) (some ((cs.drop off).take n)) none

theorem rowO_put (o : Tr AO) (k : Nat) (x : AO) (id : Nat) : rowO (o.put k (some x)) id = if id = k then rowA x else rowO o id := by
  unfold rowO
  rw [put_get]
  by_cases h : id = k
  · rw [if_pos h, if_pos h]; rfl
  · rw [if_neg h, if_neg h]

theorem rowA_cells (cs : List AV) (f : Nat) : rowA (.cells cs f) = some cs := rfl

section
variable {P : Program} {h : H}
theorem chunk_row {id off n : Nat} : h.chunk id off n = (rowO h.objs id).bind fun cs => chunkL cs off n := by
  unfold H.chunk rowO
  cases h.objs.get id with
  | none => rfl
  | some o => cases o <;> rfl
theorem load_agg {t n id off : Nat} (ha : isAggA P t = some true) (hs : sizeA P t = some n) : h.load P t id off = ((rowO h.objs id).bind fun cs => chunkL cs off n).map .agg := by
  simp only [H.load, ha, hs, Option.bind_some, chunk_row]
theorem load_one {t id off : Nat} (ha : isAggA P t = some false) : h.load P t id off = (rowO h.objs id).bind fun cs => cs[off]? := by
  simp only [H.load, ha]
  unfold rowO
  cases h.objs.get id with
  | none => rfl
  | some o => cases o <;> rfl
end

/-- A slice whose elements are rows of s cells. -/
structure RdS (h : H) (v : AV) (s : Nat) (rows : List (List AV)) : Prop where
  wide : ∀ r ∈ rows, r.length = s
  at' : (rows = [] ∧ ∃ o e c, v = .slice o 0 e c) ∨ ∃ id off cap cs, v = .slice (some (id, off)) rows.length s cap ∧ id < h.next ∧ rowO h.objs id = some cs ∧ off + rows.length * s ≤ cs.length ∧ (cs.drop off).take (rows.length * s) = rows.flatten

theorem flat_at {s : Nat} : ∀ {rows : List (List AV)}, (∀ r ∈ rows, r.length = s) → ∀ {i : Nat} {r : List AV}, rows[i]? = some r → ∀ {k : Nat}, k < s → rows.flatten[i * s + k]? = r[k]?
  | [], _, i, r, hi, k, _ => by simp at hi
  | a :: rows, hw, 0, r, hi, k, hk => by
    simp at hi; subst hi
    have := hw a (List.mem_cons_self ..)
    rw [List.flatten_cons, Nat.zero_mul, Nat.zero_add, List.getElem?_append_left (by omega)]
  | a :: rows, hw, i + 1, r, hi, k, hk => by
    rw [List.getElem?_cons_succ] at hi
    have ha := hw a (List.mem_cons_self ..)
    have ih := flat_at (fun r hr => hw r (List.mem_cons_of_mem _ hr)) hi hk
    rw [List.flatten_cons, List.getElem?_append_right (by rw [ha, Nat.succ_mul]; omega), ha]
    rw [show (i + 1) * s + k - s = i * s + k by rw [Nat.succ_mul]; omega]
    exact ih

theorem flat_len {s : Nat} : ∀ {rows : List (List AV)}, (∀ r ∈ rows, r.length = s) → rows.flatten.length = rows.length * s
  | [], _ => by simp
  | a :: rows, hw => by
    have ha := hw a (List.mem_cons_self ..)
    have ih := flat_len (fun r hr => hw r (List.mem_cons_of_mem _ hr))
    rw [List.flatten_cons, List.length_append, ih, ha, List.length_cons, Nat.succ_mul]; omega

theorem idx_lt {α : Type} {l : List α} {i : Nat} {x : α} (h : l[i]? = some x) : i < l.length := (List.getElem?_eq_some_iff.1 h).1

/-- What the cells of element i are. -/
theorem cell_at {cs : List AV} {off s : Nat} {rows : List (List AV)} (hw : ∀ r ∈ rows, r.length = s) (hf : (cs.drop off).take (rows.length * s) = rows.flatten) {i : Nat} {r : List AV} (hi : rows[i]? = some r) {k : Nat} (hk : k < s) : cs[off + i * s + k]? = r[k]? := by
  have h1 := flat_at hw hi hk
  have hlt := idx_lt hi
  have h2 : i * s + k < rows.length * s := by
    have := Nat.mul_le_mul_right s (show i + 1 ≤ rows.length from hlt)
    rw [Nat.succ_mul] at this; omega
  rw [← hf, List.getElem?_take, if_pos h2, List.getElem?_drop, ← Nat.add_assoc] at h1
  exact h1

theorem chunk_at {cs : List AV} {off s : Nat} {rows : List (List AV)} (hw : ∀ r ∈ rows, r.length = s) (hl : off + rows.length * s ≤ cs.length) (hf : (cs.drop off).take (rows.length * s) = rows.flatten) {i : Nat} {r : List AV} (hi : rows[i]? = some r) : chunkL cs (off + i * s) s = some r := by
  have hlt := idx_lt hi
  have h2 : i * s + s ≤ rows.length * s := by
    have := Nat.mul_le_mul_right s (show i + 1 ≤ rows.length from hlt)
    rw [Nat.succ_mul] at this; omega
  have hr := hw r (List.mem_of_getElem? hi)
  unfold chunkL
  rw [Nble (show off + i * s + s ≤ cs.length by omega), cond_tt]
  congr 1
  apply List.ext_getElem?
  intro k
  by_cases hk : k < s
  · rw [List.getElem?_take, if_pos hk, List.getElem?_drop]
    exact cell_at hw hf hi hk
  · rw [List.getElem?_take, if_neg hk, List.getElem?_eq_none (by omega)]

theorem RdS.len {h : H} {v : AV} {s : Nat} {rows : List (List AV)} (hr : RdS h v s rows) : ∃ o e c, v = .slice o rows.length e c := by
  rcases hr.at' with ⟨h1, o, e, c, h2⟩ | ⟨id, off, cap, cs, h1, _⟩
  · subst h1; exact ⟨o, e, c, h2⟩
  · exact ⟨_, _, _, h1⟩

theorem RdS.open {h : H} {v : AV} {s : Nat} {rows : List (List AV)} (hr : RdS h v s rows) {i : Nat} (hi : i < rows.length) : ∃ id off cap cs, v = .slice (some (id, off)) rows.length s cap ∧ id < h.next ∧ rowO h.objs id = some cs ∧ off + rows.length * s ≤ cs.length ∧
    (∀ (i : Nat) (r : List AV), rows[i]? = some r → chunkL cs (off + i * s) s = some r) ∧ (∀ (i : Nat) (r : List AV), rows[i]? = some r → ∀ k, k < s → cs[off + i * s + k]? = r[k]?) := by
  rcases hr.at' with ⟨h1, _⟩ | ⟨id, off, cap, cs, h1, h2, h3, h4, h5⟩
  · subst h1; simp at hi
  · exact ⟨id, off, cap, cs, h1, h2, h3, h4, fun i r hi => chunk_at hr.wide h4 h5 hi, fun i r hi k hk => cell_at hr.wide h5 hi hk⟩

theorem eqTop_str (n : Nat) (s : List Nat) : eqTop (n + 1) (.str s) (.str s) = true := by
  simp only [eqTop, eqL_eq, decide_true]
theorem eqTop_int (n : Nat) (k : IntKind) (i : Int) : eqTop (n + 1) (.int k i) (.int k i) = true := by
  simp only [eqTop, eqI_eq, decide_true, Bool.and_true]
  cases k <;> rfl
theorem eqTop_bool (n : Nat) (b : Bool) : eqTop (n + 1) (.bool b) (.bool b) = true := by
  simp only [eqTop, beq_self_eq_true]
theorem eqTop_ptr (n : Nat) (id off : Nat) : eqTop (n + 1) (.ptr (some (id, off))) (.ptr (some (id, off))) = true := by
  simp only [eqTop, Nat.beq_refl, Bool.and_self]
theorem eqTop_map (n : Nat) (id : Nat) : eqTop (n + 1) (.map (some id)) (.map (some id)) = true := by
  simp only [eqTop, Nat.beq_refl]
theorem eqTop_slice (n : Nat) (id off l e : Nat) (c : Option Nat) : eqTop (n + 1) (.slice (some (id, off)) l e c) (.slice (some (id, off)) l e c) = true := by
  cases c <;> simp only [eqTop, Nat.beq_refl, Bool.and_self]
theorem eqTop_agg (n : Nat) (l : List AV) (h : all2 (eqTop n) l l = true) : eqTop (n + 1) (.agg l) (.agg l) = true := h
theorem eqTop_tup (n : Nat) (l : List AV) (h : all2 (eqTop n) l l = true) : eqTop (n + 1) (.tup l) (.tup l) = true := h
theorem all2_nil (eq : AV → AV → Bool) : all2 eq [] [] = true := rfl
theorem all2_cons (eq : AV → AV → Bool) (a : AV) (l : List AV) : all2 eq (a :: l) (a :: l) = (eq a a && all2 eq l l) := rfl

end
end Go.Ev

namespace Go.Ev

/-! ### Stores into objects that the call itself laid -/

theorem minN_self (a : Nat) : minN a a = a := by unfold minN; cases Nat.ble a a <;> rfl
theorem minN_add (a k : Nat) : minN a (a + k) = a := by unfold minN; rw [Nble (show a ≤ a + k by omega), cond_tt]
theorem minN_left {a b : Nat} (h : a ≤ b) : minN a b = a := by unfold minN; rw [Nble h, cond_tt]

theorem minN_right {a b : Nat} (h : b ≤ a) : minN a b = b := by
  unfold minN
  cases hb : Nat.ble a b
  · rfl
  · have := bleN hb; rw [cond_tt]; omega

theorem store_at {h : H} {id off fam : Nat} {cs vs : List AV} (ho : h.objs.get id = some (.cells cs fam)) (hf : h.fams.get fam = some (id, id)) (hle : Nat.ble (off + vs.length) cs.length = true) (h1 : vs.all oneC = true) :
    h.store id off vs = some { h with objs := h.objs.put id (some (.cells (cs.take off ++ (vs ++ cs.drop (off + vs.length))) fam)), low := minN h.low id } := by
  have ha : h.alone id fam = h := by
    unfold H.alone
    rw [hf]
    simp
  unfold H.store
  simp only [ho, hle, h1, Bool.and_self, cond_tt, ha]

theorem storeVar_at {P : Program} {tt : TypeId} {h : H} {id off fam : Nat} {cs : List AV} {v : AV} (hs : sizeA P tt = some v.cells.length) (ho : h.objs.get id = some (.cells cs fam)) (hf : h.fams.get fam = some (id, id)) (hle : Nat.ble (off + v.cells.length) cs.length = true) (h1 : v.cells.all oneC = true) :
    h.storeVar P tt id off v = some { h with objs := h.objs.put id (some (.cells (cs.take off ++ (v.cells ++ cs.drop (off + v.cells.length))) fam)), low := minN h.low id } := by
  unfold H.storeVar
  simp only [hs, Option.bind_some, Nat.beq_refl, cond_tt]
  exact store_at ho hf hle h1

/-- A store. -/
theorem AOps.st {P : Program} {ro : Option Nat} {all : List Oper} {o : Oper} {l : List Oper} {f : Nat → AV} {n : Nat} {h : H} {ds : List ADf} {K : FSt → Prop} {tt : TypeId} {a x : Operand} {id off fam : Nat} {v : AV} {cs cs' : List AV} {lw : Nat} (hop : o.op = .store tt a x) (hdst : o.dst = none) (hw : wantedF all f n o = some true)
    (ha : ev (trOf f n) a = some (.ptr (some (id, off)))) (hx : ev (trOf f n) x = some v) (hs : sizeA P tt = some v.cells.length) (ho : h.objs.get id = some (.cells cs fam)) (hf : h.fams.get fam = some (id, id)) (hle : Nat.ble (off + v.cells.length) cs.length = true) (h1 : v.cells.all oneC = true)
    (hcs : cs.take off ++ (v.cells ++ cs.drop (off + v.cells.length)) = cs') (hlw : minN h.low id = lw)
    (hk : AOps P ro all l ⟨f, n, { h with objs := h.objs.put id (some (.cells cs' fam)), low := lw }, ds⟩ K) : AOps P ro all (o :: l) ⟨f, n, h, ds⟩ K := by
  subst hcs; subst hlw
  refine AOps.u hop hdst hw rfl (r := none) (h' := _) ?_ hk
  rw [op_store, ha, hx, store_some, storeVar_at hs ho hf hle h1]
  rfl

theorem ACalls.of_x {P : Program} {g : FuncId} {k : XK} (hx : XOne P g k) {args : List AV} {h : H} {a : AV} {h' : H} (ha : xA k args h = some (a, h')) : ACalls P (.func g) args h (fun a' h'' => a' = a ∧ h'' = h') :=
  fun σ w args' hv hr => (hx args h a h' ha σ w args' hv hr).mono fun v w' ⟨a', h'', hm, hg⟩ => ⟨a', h'', by simpa using hm, hg⟩

theorem dec_beq' (a b : Nat) : decide ((a : Int) = (b : Int)) = decide (a = b) := by
  by_cases h : a = b
  · subst h; simp
  · have h2 : ¬ (a : Int) = b := by omega
    simp [h, h2]

theorem cells_agg (l : List AV) : AV.cells (.agg l) = l := rfl
theorem cells_str (s : List Nat) : AV.cells (.str s) = [.str s] := rfl
theorem cells_int (k : IntKind) (i : Int) : AV.cells (.int k i) = [.int k i] := rfl
theorem cells_bool (b : Bool) : AV.cells (.bool b) = [.bool b] := rfl
theorem cells_ptr (o : Option (Nat × Nat)) : AV.cells (.ptr o) = [.ptr o] := rfl
theorem cells_slice (o : Option (Nat × Nat)) (l e : Nat) (c : Option Nat) : AV.cells (.slice o l e c) = [.slice o l e c] := rfl
theorem cells_map (o : Option Nat) : AV.cells (.map o) = [.map o] := rfl
theorem cells_fn (f : Fn) (a b : List AV) : AV.cells (.fn f a b) = [.fn f a b] := rfl

def callW : Option AV → Option (List AV) → Option (Fn × List AV × List AV)
  | some (.fn fn first cap), some xs => some (fn, first ++ xs, cap)
  | _, _ => none
theorem callOf_val {P : Program} {t : Tr AV} {g : Operand} {as : Array Operand} {ats : Array TypeId} : callOf P t { callee := .value g, args := as, argTypes := ats } = callW (ev t g) (evs t as.toList) := by
  simp only [callOf]
  cases ev t g with
  | none => rfl
  | some v => cases v <;> (try rfl); cases evs t as.toList <;> rfl
theorem callW_fn {fn : Fn} {first cap xs : List AV} : callW (some (.fn fn first cap)) (some xs) = some (fn, first ++ xs, cap) := rfl

end Go.Ev

/- Maps that only grow: what a look-up, an update, a step over the entries gives. No conditions beyond those that each theorem states. -/
namespace Go.Ev
noncomputable section

/-! ### Plain lists of keys and values -/

section
variable {K U : Type} [DecidableEq K]

/-- Where a key stands. -/
def posM (k : K) : List (K × U) → Nat → Option Nat
  | [], _ => none
  | e :: l, j => if k = e.1 then some j else posM k l (j + 1)
def getM (u0 : U) (k : K) : List (K × U) → U
  | [] => u0
  | e :: l => if k = e.1 then e.2 else getM u0 k l
def hasM (k : K) (l : List (K × U)) : Bool := l.any fun e => decide (k = e.1)
def putM (k : K) (v : U) : List (K × U) → List (K × U)
  | [] => [(k, v)]
  | e :: l => if k = e.1 then (k, v) :: l else e :: putM k v l
/-- The list with the key in it. -/
def touchM (u0 : U) (k : K) (l : List (K × U)) : List (K × U) := if hasM k l then l else l ++ [(k, u0)]

theorem posM_none {k : K} : ∀ {l : List (K × U)} {j : Nat}, posM k l j = none → hasM k l = false
  | [], _, _ => rfl
  | e :: l, j, h => by
    unfold posM at h
    split at h
    · cases h
    · rename_i hne
      have := posM_none h
      simp only [hasM, List.any_cons, hne, decide_false, Bool.false_or] at this ⊢
      exact this

theorem posM_some {k : K} : ∀ {l : List (K × U)} {j i : Nat}, posM k l j = some i → j ≤ i ∧ ∃ u, l[i - j]? = some (k, u) ∧ (∀ u0, getM u0 k l = u) ∧ (∀ v, putM k v l = l.set (i - j) (k, v)) ∧ hasM k l = true
  | [], _, _, h => by cases h
  | e :: l, j, i, h => by
    unfold posM at h
    split at h
    · rename_i he
      cases h
      refine ⟨Nat.le_refl _, e.2, ?_, fun u0 => ?_, fun v => ?_, ?_⟩
      · rw [Nat.sub_self, List.getElem?_cons_zero]; rw [he]
      · simp only [getM, he, if_true]
      · rw [Nat.sub_self]; simp only [putM, he, if_true, List.set_cons_zero]
      · simp only [hasM, List.any_cons, he, decide_true, Bool.true_or]
    · rename_i hne
      obtain ⟨h1, u, h2, h3, h4, h5⟩ := posM_some h
      have e1 : i - j = (i - (j + 1)) + 1 := by omega
      refine ⟨by omega, u, ?_, fun u0 => ?_, fun v => ?_, ?_⟩
      · rw [e1, List.getElem?_cons_succ]; exact h2
      · simp only [getM, hne, if_false]; exact h3 u0
      · rw [e1]; simp only [putM, hne, if_false, List.set_cons_succ]; rw [h4]
      · simp only [hasM, List.any_cons] at h5 ⊢; rw [h5, Bool.or_true]

theorem getM_not {u0 : U} {k : K} : ∀ {l : List (K × U)}, hasM k l = false → getM u0 k l = u0
  | [], _ => rfl
  | e :: l, h => by
    simp only [hasM, List.any_cons, Bool.or_eq_false_iff, decide_eq_false_iff_not] at h
    unfold getM
    rw [if_neg h.1]
    exact getM_not h.2
theorem putM_not {k : K} {v : U} : ∀ {l : List (K × U)}, hasM k l = false → putM k v l = l ++ [(k, v)]
  | [], _ => rfl
  | e :: l, h => by
    simp only [hasM, List.any_cons, Bool.or_eq_false_iff, decide_eq_false_iff_not] at h
    unfold putM
    rw [if_neg h.1, putM_not h.2]; rfl

theorem getM_put (u0 : U) (k k' : K) (v : U) : ∀ (l : List (K × U)), getM u0 k' (putM k v l) = if k' = k then v else getM u0 k' l
  | [] => by simp only [putM, getM]
  | e :: l => by
    unfold putM
    by_cases h : k = e.1
    · rw [if_pos h]
      unfold getM
      by_cases h2 : k' = k
      · rw [if_pos h2, if_pos h2]
      · rw [if_neg h2, if_neg h2, if_neg (by rw [← h]; exact h2)]
    · rw [if_neg h]
      unfold getM
      by_cases h2 : k' = e.1
      · rw [if_pos h2, if_pos h2, if_neg (fun e2 => h (e2.symm.trans h2))]
      · rw [if_neg h2, if_neg h2]; exact getM_put u0 k k' v l

theorem hasM_put (k k' : K) (v : U) : ∀ (l : List (K × U)), hasM k' (putM k v l) = (decide (k' = k) || hasM k' l)
  | [] => by simp [putM, hasM]
  | e :: l => by
    have ih := hasM_put k k' v l
    unfold putM
    by_cases h : k = e.1
    · rw [if_pos h]; simp only [hasM, List.any_cons, h, ← Bool.or_assoc, Bool.or_self]
    · rw [if_neg h]
      simp only [hasM, List.any_cons] at ih ⊢
      rw [ih, ← Bool.or_assoc, ← Bool.or_assoc, Bool.or_comm (decide (k' = e.1))]

/-- No key stands twice. -/
def nodupM (l : List (K × U)) : Prop := (l.map (·.1)).Nodup

theorem hasM_mem {k : K} {l : List (K × U)} : hasM k l = true ↔ k ∈ l.map (·.1) := by
  simp only [hasM, List.any_eq_true, decide_eq_true_eq, List.mem_map]
  exact ⟨fun ⟨x, h1, h2⟩ => ⟨x, h1, h2.symm⟩, fun ⟨x, h1, h2⟩ => ⟨x, h1, h2.symm⟩⟩

theorem keys_put (k : K) (v : U) : ∀ (l : List (K × U)), (putM k v l).map (·.1) = if hasM k l then l.map (·.1) else l.map (·.1) ++ [k]
  | [] => rfl
  | e :: l => by
    have ih := keys_put k v l
    unfold putM
    by_cases h : k = e.1
    · rw [if_pos h]; simp [hasM, h]
    · rw [if_neg h]
      simp only [hasM, List.any_cons, h, decide_false, Bool.false_or, List.map_cons] at ih ⊢
      rw [ih]
      by_cases hc : (l.any fun e => decide (k = e.1)) = true
      · simp only [hc, if_true]
      · simp only [hc, if_false, Bool.false_eq_true, List.cons_append]

theorem nodup_put {k : K} {v : U} {l : List (K × U)} (h : nodupM l) : nodupM (putM k v l) := by
  unfold nodupM
  rw [keys_put]
  split
  · exact h
  · rename_i hn
    rw [List.nodup_append]
    refine ⟨h, by simp, fun a ha b hb => ?_⟩
    have : b = k := by simpa using hb
    subst this
    intro e; subst e
    exact hn (hasM_mem.2 ha)

theorem getM_of_mem {u0 : U} {k : K} {u : U} : ∀ {l : List (K × U)}, nodupM l → (k, u) ∈ l → getM u0 k l = u
  | [], _, h => by cases h
  | e :: l, hn, h => by
    unfold nodupM at hn
    rw [List.map_cons, List.nodup_cons] at hn
    unfold getM
    rcases List.mem_cons.1 h with rfl | h
    · rw [if_pos rfl]
    · rw [if_neg]
      · exact getM_of_mem hn.2 h
      · intro e2; subst e2; exact hn.1 (List.mem_map.2 ⟨_, h, rfl⟩)

theorem mem_of_hasM {u0 : U} {k : K} : ∀ {l : List (K × U)}, hasM k l = true → (k, getM u0 k l) ∈ l
  | [], h => by cases h
  | e :: l, h => by
    unfold getM
    by_cases he : k = e.1
    · rw [if_pos he]; exact List.mem_cons.2 (.inl (by rw [he]))
    · rw [if_neg he]
      simp only [hasM, List.any_cons, he, decide_false, Bool.false_or] at h
      exact List.mem_cons_of_mem _ (mem_of_hasM h)

/-! ### As they lie in the heap -/

def encE (kv : K → AV) (uv : U → AV) : Nat → List (K × U) → List (AV × AV × Nat)
  | _, [] => []
  | i, e :: l => (kv e.1, uv e.2, i) :: encE kv uv (i + 1) l

omit [DecidableEq K] in
theorem encE_len (kv : K → AV) (uv : U → AV) : ∀ (i : Nat) (l : List (K × U)), (encE kv uv i l).length = l.length
  | _, [] => rfl
  | i, e :: l => by simp only [encE, List.length_cons, encE_len kv uv (i + 1) l]

omit [DecidableEq K] in
theorem encE_get (kv : K → AV) (uv : U → AV) : ∀ (i : Nat) (l : List (K × U)) (j : Nat), (encE kv uv i l)[j]? = (l[j]?).map fun e => (kv e.1, uv e.2, i + j)
  | _, [], j => by simp [encE]
  | i, e :: l, 0 => by simp [encE]
  | i, e :: l, j + 1 => by
    simp only [encE, List.getElem?_cons_succ]
    rw [encE_get kv uv (i + 1) l j]
    congr 1
    funext e
    rw [show i + 1 + j = i + (j + 1) by omega]

omit [DecidableEq K] in
theorem encE_snoc (kv : K → AV) (uv : U → AV) : ∀ (i : Nat) (l : List (K × U)) (e : K × U), encE kv uv i (l ++ [e]) = encE kv uv i l ++ [(kv e.1, uv e.2, i + l.length)]
  | i, [], e => rfl
  | i, a :: l, e => by
    simp only [List.cons_append, encE, encE_snoc kv uv (i + 1) l e, List.length_cons]
    rw [show i + 1 + l.length = i + (l.length + 1) by omega]

omit [DecidableEq K] in
theorem encE_set (kv : K → AV) (uv : U → AV) : ∀ (i : Nat) (l : List (K × U)) (j : Nat) (e : K × U), setAt (kv e.1, uv e.2, i + j) (encE kv uv i l) j = encE kv uv i (l.set j e)
  | _, [], j, e => by simp [encE, setAt]
  | i, a :: l, 0, e => by simp [encE, setAt]
  | i, a :: l, j + 1, e => by
    simp only [encE, setAt, List.set_cons_succ]
    rw [show i + (j + 1) = i + 1 + j by omega, encE_set kv uv (i + 1) l j e]

/-- What is asked of a type of keys. -/
structure Keys (P : Program) (kt : TypeId) (kv : K → AV) : Prop where
  eq : ∀ a b, eqA P 4 kt (kv a) (kv b) = some (decide (a = b))
  ck : ∀ a, keyA P kt (kv a) = true
  st : ∀ a, stays (kv a) (kv a) = true

theorem find_enc {P : Program} {kt : TypeId} {kv : K → AV} (hk : Keys P kt kv) (uv : U → AV) (k : K) : ∀ (l : List (K × U)) (i j : Nat), findA P kt (kv k) (encE kv uv i l) j = some (posM k l j)
  | [], _, _ => rfl
  | e :: l, i, j => by
    simp only [encE, findA, hk.eq]
    by_cases h : k = e.1
    · simp only [h, decide_true, posM, if_true]
    · simp only [h, decide_false, posM, if_false]
      exact find_enc hk uv k l (i + 1) (j + 1)

theorem born_enc {K U : Type} (kv : K → AV) (uv : U → AV) : ∀ (l : List (K × U)) (i j b : Nat), i ≤ b → b < i + l.length → bornAt b (encE kv uv i l) j = some (j + (b - i))
  | [], i, j, b, h1, h2 => by simp at h2; omega
  | e :: l, i, j, b, h1, h2 => by
    simp only [encE, bornAt]
    by_cases h : i = b
    · subst h; rw [Nat.beq_refl, cond_tt, Nat.sub_self]; rfl
    · have : Nat.beq i b = false := by
        cases hb : Nat.beq i b
        · rfl
        · exact absurd (beqN hb) h
      rw [this, cond_ff, born_enc kv uv l (i + 1) (j + 1) b (by omega) (by simp at h2; omega)]
      congr 1; omega

section
variable {P : Program} {t kt et : TypeId} {kv : K → AV} {uv : U → AV} {u0 : U} {h : H} {id : Nat} {l : List (K × U)}

def MapAt (kv : K → AV) (uv : U → AV) (o : Tr AO) (id : Nat) (l : List (K × U)) : Prop := o.get id = some (.map (encE kv uv 0 l) l.length)

theorem MapAt.of {K U : Type} {kv : K → AV} {uv : U → AV} {h : H} {id : Nat} {l : List (K × U)} (hm : MapAt kv uv h.objs id l) : h.mapOf id = some (encE kv uv 0 l, l.length) := by
  unfold H.mapOf; rw [show h.objs.get id = _ from hm]

theorem mapTypeA_of {kt et : TypeId} (hu : P.underlying t = some (.map kt et)) : mapTypeA P t = some (kt, et) := by unfold mapTypeA; rw [hu]

theorem look_map (hu : P.underlying t = some (.map kt et)) (hk : Keys P kt kv) (hz : zeroA P et = some (uv u0)) (hm : MapAt kv uv h.objs id l) (k : K) (ok : Bool) :
    lookupA P h t (.map (some id)) (kv k) ok = some (_root_.cond ok (.tup [uv (getM u0 k l), .bool (hasM k l)]) (uv (getM u0 k l))) := by
  simp only [lookupA, mapTypeA_of hu, Option.bind_some, hk.ck, cond_tt, hm.of, Option.map_some, find_enc hk]
  cases hp : posM k l 0 with
  | none =>
    have hn := posM_none hp
    simp only [hz, Option.map_some, getM_not hn, hn]
  | some i =>
    obtain ⟨_, u, h2, h3, _, h5⟩ := posM_some hp
    rw [Nat.sub_zero] at h2
    simp only [encE_get, h2, Option.map_some, h3, h5]

theorem mapUpdate_map (hu : P.underlying t = some (.map kt et)) (hk : Keys P kt kv) (hm : MapAt kv uv h.objs id l) (k : K) (v : U) :
    mapUpdateA P h t (.map (some id)) (kv k) (uv v) = some (h.set id (.map (encE kv uv 0 (putM k v l)) (putM k v l).length)) := by
  simp only [mapUpdateA, mapTypeA_of hu, Option.bind_some, hk.ck, cond_tt, hm.of, find_enc hk]
  cases hp : posM k l 0 with
  | none =>
    have hn := posM_none hp
    have := encE_snoc kv uv 0 l (k, v)
    simp only [Nat.zero_add] at this
    simp only [putM_not hn, this, List.length_append, List.length_cons, List.length_nil, Nat.zero_add]
  | some i =>
    obtain ⟨_, u, h2, _, h4, _⟩ := posM_some hp
    rw [Nat.sub_zero] at h2
    have h4 := h4 v
    rw [Nat.sub_zero] at h4
    simp only [encE_get, h2, Option.map_some, Option.bind_some, hk.st, cond_tt, Nat.zero_add]
    have := encE_set kv uv 0 l i (k, v)
    rw [Nat.zero_add] at this
    rw [this, h4, List.length_set]

/-- The place of a key in the list that holds it. -/
def plcM (k : K) (l : List (K × U)) : Nat := match posM k l 0 with
  | some i => i
  | none => l.length

theorem mapEntry_map (hu : P.underlying t = some (.map kt et)) (hk : Keys P kt kv) (hz : zeroA P et = some (uv u0)) (hm : MapAt kv uv h.objs id l) (k : K) :
    mapEntryA P h t (.map (some id)) (kv k) = some (.tup [uv (getM u0 k l), .int .i64 (plcM k l : Int)], h.set id (.map (encE kv uv 0 (touchM u0 k l)) (touchM u0 k l).length)) := by
  simp only [mapEntryA, mapTypeA_of hu, Option.bind_some, hk.ck, cond_tt, hm.of, find_enc hk]
  cases hp : posM k l 0 with
  | none =>
    have hn := posM_none hp
    have := encE_snoc kv uv 0 l (k, u0)
    simp only [Nat.zero_add] at this
    simp only [hz, Option.map_some, getM_not hn, plcM, hp, touchM, hn, Bool.false_eq_true, if_false, this, List.length_append, List.length_cons, List.length_nil, Nat.zero_add, Int.ofNat_eq_natCast]
  | some i =>
    obtain ⟨_, u, h2, h3, h4, h5⟩ := posM_some hp
    rw [Nat.sub_zero] at h2
    have h4 := h4 u
    rw [Nat.sub_zero] at h4
    have hs : l.set i (k, u) = l := by
      have := idx_lt h2
      have e := (List.getElem?_eq_some_iff.1 h2).2
      rw [← e]; exact List.set_getElem_self this
    have := encE_set kv uv 0 l i (k, u)
    rw [Nat.zero_add, hs] at this
    simp only [encE_get, h2, Option.map_some, Option.bind_some, hk.st, cond_tt, Nat.zero_add, this, h3, plcM, hp, touchM, h5, if_true, Int.ofNat_eq_natCast]

theorem set_objs (h : H) (id : Nat) (o : AO) : (h.set id o).objs = h.objs.put id (some o) := rfl

theorem put_touch (k : K) (v : U) : (touchM u0 k l).set (plcM k l) (k, v) = putM k v l ∧ plcM k l < (touchM u0 k l).length ∧ ∃ u, (touchM u0 k l)[plcM k l]? = some (k, u) := by
  unfold touchM plcM
  cases hp : posM k l 0 with
  | none =>
    have hn := posM_none hp
    simp only [hn, Bool.false_eq_true, if_false]
    refine ⟨?_, by simp, u0, by simp⟩
    rw [putM_not hn, List.set_append_right _ _ (Nat.le_refl _), Nat.sub_self]; rfl
  | some i =>
    obtain ⟨_, u, h2, h3, h4, h5⟩ := posM_some hp
    rw [Nat.sub_zero] at h2
    have h4 := h4 v
    rw [Nat.sub_zero] at h4
    simp only [h5, if_true]
    exact ⟨h4.symm, idx_lt h2, u, h2⟩

theorem entryStore_map {h' : H} {k : K} (hm : MapAt kv uv h'.objs id (touchM u0 k l)) (v : U) :
    entryStoreA h' (.map (some id)) (.int .i64 (plcM k l : Int)) (uv v) = some (h'.set id (.map (encE kv uv 0 (putM k v l)) (putM k v l).length)) := by
  obtain ⟨p1, p2, u, p3⟩ := put_touch (u0 := u0) (l := l) k v
  have hb := born_enc kv uv (touchM u0 k l) 0 0 (plcM k l) (Nat.zero_le _) (by omega)
  rw [Nat.zero_add, Nat.sub_zero] at hb
  simp only [entryStoreA, hm.of, natOf_cast, Option.bind_some, hb, encE_get, p3, Option.map_some, Nat.zero_add]
  have := encE_set kv uv 0 (touchM u0 k l) (plcM k l) (k, v)
  rw [Nat.zero_add] at this
  rw [this, p1]
  congr 3
  rw [← p1, List.length_set]

theorem len_map {K U : Type} {P : Program} {t kt et : TypeId} {kv : K → AV} {uv : U → AV} {h : H} {id : Nat} {l : List (K × U)} (hu : P.underlying t = some (.map kt et)) (hm : MapAt kv uv h.objs id l) : lenA P h t (.map (some id)) = some (.int .i64 (l.length : Int)) := by
  simp only [lenA, hu, hm.of, Option.map_some, encE_len, Int.ofNat_eq_natCast]

theorem mapAt_put {K U : Type} {kv : K → AV} {uv : U → AV} {id : Nat} {l : List (K × U)} (o : Tr AO) : MapAt kv uv (o.put id (some (.map (encE kv uv 0 l) l.length))) id l := put_same _ _ _

end
end
end
end Go.Ev

namespace Go.Ev

theorem addX_nil (base m : Nat) (h : H) : addX base m [] h = h := rfl
theorem updo_some (f : Nat → AV) (d : Nat) (v : AV) : updo f (some d) v = upd f d v := rfl
theorem updo_none (f : Nat → AV) (v : AV) : updo f none v = f := rfl
theorem orU_some (v : AV) : orU (some v) = v := rfl

/-- All but one of the objects that were there are as they were. -/
structure Upto (h h' : H) (id : Nat) : Prop where
  next : h.next ≤ h'.next
  objs : ∀ j, j < h.next → j ≠ id → h'.objs.get j = h.objs.get j
  fams : ∀ f, f < h.next → h'.fams.get f = h.fams.get f

theorem Upto.refl (h : H) (id : Nat) : Upto h h id := ⟨Nat.le_refl _, fun _ _ _ => rfl, fun _ _ => rfl⟩
theorem Upto.trans {h h' h'' : H} {id : Nat} (a : Upto h h' id) (b : Upto h' h'' id) : Upto h h'' id :=
  ⟨Nat.le_trans a.next b.next, fun j h1 h2 => (b.objs j (Nat.lt_of_lt_of_le h1 a.next) h2).trans (a.objs j h1 h2), fun f h1 => (b.fams f (Nat.lt_of_lt_of_le h1 a.next)).trans (a.fams f h1)⟩

theorem Upto.row {h h' : H} {id : Nat} (u : Upto h h' id) {j : Nat} (hj : j < h.next) {cs : List AV} (hr : rowO h.objs j = some cs) (hid : rowO h.objs id = none) : rowO h'.objs j = some cs := by
  have hne : j ≠ id := fun e => by rw [e, hid] at hr; cases hr
  unfold rowO at hr ⊢
  rw [u.objs j hj hne]; exact hr

theorem RdS.upto {h h' : H} {id : Nat} (u : Upto h h' id) (hid : rowO h.objs id = none) {v : AV} {s : Nat} {rows : List (List AV)} (hr : RdS h v s rows) : RdS h' v s rows := by
  refine ⟨hr.wide, ?_⟩
  rcases hr.at' with h1 | ⟨i, off, cap, cs, h1, h2, h3, h4⟩
  · exact .inl h1
  · exact .inr ⟨i, off, cap, cs, h1, Nat.lt_of_lt_of_le h2 u.next, u.row h2 h3 hid, h4⟩

theorem rowO_map {K U : Type} {kv : K → AV} {uv : U → AV} {o : Tr AO} {id : Nat} {l : List (K × U)} (hm : MapAt kv uv o id l) : rowO o id = none := by
  unfold rowO; rw [show o.get id = _ from hm]; rfl

theorem getM_touch {K U : Type} [DecidableEq K] (u0 : U) (k k' : K) (l : List (K × U)) : getM u0 k' (touchM u0 k l) = getM u0 k' l := by
  unfold touchM
  split
  · rfl
  · rename_i hn
    have hn : hasM k l = false := by simpa using hn
    have e : l ++ [(k, u0)] = putM k u0 l := (putM_not hn).symm
    rw [e, getM_put]
    split
    · rename_i he; rw [he, getM_not hn]
    · rfl

end Go.Ev
