/- Ranging over a map that only grows; a slice that is appended to; what is handed back. No conditions beyond those that each theorem states. -/
import Derived.Test.YthfdoggncbcmjaaGreatGf
import Derived.Deep.Slices
import Derived.Deep.Strs

set_option linter.unusedSimpArgs false
set_option linter.unusedVariables false
set_option linter.unusedSectionVars false

namespace Go.Ev
noncomputable section

/-- An operation that may yield one of several things. -/
theorem AOps.n {P : Program} {ro : Option Nat} {all : List Oper} {o : Oper} {l : List Oper} {f : Nat → AV} {n : Nat} {h : H} {ds : List ADf} {K : FSt → Prop} {d : Nat} {op : Op} {outs : List (Option AV × H)} (hop : o.op = op) (hdst : o.dst = some d) (hw : wantedF all f n o = some true) (hnd : noDefer op = true) (hd : Nat.blt d n = true)
    (ho : opA P (trOf f n) h op = some outs) (hk : ∀ x ∈ outs, AOps P ro all l ⟨upd f d (orU x.1), n, x.2, ds⟩ K) : AOps P ro all (o :: l) ⟨f, n, h, ds⟩ K := by
  refine .cons hw (.run (by rw [hop]; exact hnd) (by rw [hdst]; exact hd) (by rw [hop]; exact ho) ?_)
  intro x hx
  have := hk x hx
  rw [hdst]
  obtain ⟨v, h'⟩ := x
  cases v <;> exact this

theorem op_next {P : Program} {t : Tr AV} {h : H} {it : Operand} {s : Bool} {a : AV} (ha : ev t it = some a) : opA P t h (.next it s) = (nextA h a s).map fun l => l.map fun x => (some x.1, x.2) := by
  simp only [opA, ha]

section
variable {K U : Type} [DecidableEq K] {kv : K → AV} {uv : U → AV}

/-- An iterator over a map of n entries that has handed out those of 'seen'. -/
def IterAt (o : Tr AO) (it m n : Nat) (seen : List Nat) : Prop := o.get it = some (.miter (some m) n seen n)

theorem seenIn_mem (b : Nat) : ∀ (l : List Nat), seenIn b l = true ↔ b ∈ l
  | [] => by simp [seenIn]
  | x :: l => by
    simp only [seenIn, Bool.or_eq_true, seenIn_mem b l, List.mem_cons]
    constructor
    · rintro (h | h)
      · exact .inl (beqN h).symm
      · exact .inr h
    · rintro (h | h)
      · exact .inl (Nbeq h.symm)
      · exact .inr h

theorem range_map {K U : Type} {kv : K → AV} {uv : U → AV} {P : Program} {t kt et : TypeId} {h : H} {id : Nat} {l : List (K × U)} (hu : P.underlying t = some (.map kt et)) (hm : MapAt kv uv h.objs id l) :
    rangeA P h t (.map (some id)) = some (.ptr (some (h.next, 0)), { h with objs := h.objs.put h.next (some (.miter (some id) l.length [] l.length)), next := h.next + 1 }) := by
  simp only [rangeA, hu, hm.of, Option.map_some, H.newObj]

theorem next_map {K U : Type} {kv : K → AV} {uv : U → AV} {h : H} {it m : Nat} {l : List (K × U)} {seen : List Nat} (hm : MapAt kv uv h.objs m l) (hi : IterAt h.objs it m l.length seen) :
    ∃ outs, nextA h (.ptr (some (it, 0))) false = some outs ∧ ∀ x ∈ outs, (x = (.tup [.bool false], h) ∧ ∀ i, i < l.length → i ∈ seen) ∨
      ∃ i e, l[i]? = some e ∧ i ∉ seen ∧ x = (.tup [.bool true, kv e.1, uv e.2], h.set it (.miter (some m) l.length (seen ++ [i]) l.length)) := by
  have hg : h.objs.get it = some (.miter (some m) l.length seen l.length) := hi
  simp only [nextA, hg, hm.of, Option.bind_some]
  have hmem : ∀ e ∈ encE kv uv 0 l, ∃ i k u, e = (kv k, uv u, i) ∧ l[i]? = some (k, u) := by
    intro e he
    obtain ⟨j, hj⟩ := List.mem_iff_getElem?.1 he
    rw [encE_get] at hj
    cases hl : l[j]? with
    | none => rw [hl] at hj; simp at hj
    | some x =>
      rw [hl] at hj
      simp only [Option.map_some, Option.some.injEq, Nat.zero_add] at hj
      exact ⟨j, x.1, x.2, hj.symm, hl⟩
  have hc : (!seen.isEmpty && (!(encE kv uv 0 l).isEmpty && (encE kv uv 0 l).all (fun e => Nat.ble l.length e.2.2))) = false := by
    cases hl : encE kv uv 0 l with
    | nil => simp
    | cons a r =>
      have hall : (a :: r).all (fun e => Nat.ble l.length e.2.2) = false := by
        rw [List.all_eq_false]
        refine ⟨a, List.mem_cons_self .., ?_⟩
        obtain ⟨i, k, u, rfl, hi⟩ := hmem a (by rw [hl]; exact List.mem_cons_self ..)
        have := idx_lt hi
        intro hb
        have : l.length ≤ i := bleN hb
        omega
      rw [hall]; simp
  rw [hc, cond_ff]
  refine ⟨_, rfl, ?_⟩
  intro x hx
  unfold candsA at hx
  have hcand : ∀ e, e ∈ ((encE kv uv 0 l).filter fun e => !(seenIn e.2.2 seen)) → ∃ i k u, e = (kv k, uv u, i) ∧ l[i]? = some (k, u) ∧ i ∉ seen := by
    intro e he
    obtain ⟨h1, h2⟩ := List.mem_filter.1 he
    obtain ⟨i, k, u, rfl, hi⟩ := hmem e h1
    refine ⟨i, k, u, rfl, hi, fun hs => ?_⟩
    have := (seenIn_mem i seen).2 hs
    simp [this] at h2
  rcases List.mem_append.1 hx with hx | hx
  · left
    cases hb : (((encE kv uv 0 l).filter fun e => !(seenIn e.2.2 seen)).filter fun e => Nat.blt e.2.2 l.length).isEmpty
    · rw [hb, cond_ff] at hx; cases hx
    · rw [hb, cond_tt] at hx
      refine ⟨List.mem_singleton.1 hx, fun i hi => ?_⟩
      rw [List.isEmpty_iff] at hb
      apply Classical.byContradiction
      intro hn
      have hli : l[i]? = some l[i] := List.getElem?_eq_getElem hi
      have he : (kv l[i].1, uv l[i].2, i) ∈ ((encE kv uv 0 l).filter fun e => !(seenIn e.2.2 seen)).filter fun e => Nat.blt e.2.2 l.length := by
        refine List.mem_filter.2 ⟨List.mem_filter.2 ⟨?_, ?_⟩, Nat.ble_eq_true_of_le hi⟩
        · refine List.mem_of_getElem? (i := i) ?_
          rw [encE_get, hli]
          simp only [Option.map_some, Nat.zero_add]
        · cases hs : seenIn i seen
          · rfl
          · exact absurd ((seenIn_mem i seen).1 hs) hn
      rw [hb] at he; cases he
  · right
    obtain ⟨e, he, rfl⟩ := List.mem_map.1 hx
    have he' : e ∈ (encE kv uv 0 l).filter fun e => !(seenIn e.2.2 seen) := by
      rcases List.mem_append.1 he with he | he <;> exact (List.mem_filter.1 he).1
    obtain ⟨i, k, u, rfl, hi, hn⟩ := hcand e he'
    exact ⟨i, (k, u), hi, hn, rfl⟩

theorem entry_map {K U : Type} {kv : K → AV} {uv : U → AV} {h : H} {it m : Nat} {l : List (K × U)} {seen : List Nat} {i : Nat} {e : K × U} (hm : MapAt kv uv h.objs m l) (hi : IterAt h.objs it m l.length (seen ++ [i])) (he : l[i]? = some e) :
    entryA h (.ptr (some (it, 0))) = some (.tup [kv e.1, uv e.2]) := by
  have hg : h.objs.get it = some (.miter (some m) l.length (seen ++ [i]) l.length) := hi
  have hlt := idx_lt he
  have hb := born_enc kv uv l 0 0 i (Nat.zero_le _) (by omega)
  rw [Nat.zero_add, Nat.sub_zero] at hb
  simp only [entryA, hg, List.getLast?_append, List.getLast?_singleton, Option.some_or, hm.of, Option.bind_some, Nat.beq_refl, cond_tt, hb, encE_get, he, Option.map_some]

/-- All that has been handed out. -/
def handed (l : List (K × U)) (seen : List Nat) : List (K × U) := seen.filterMap fun i => l[i]?

omit [DecidableEq K] in
theorem handed_all {l : List (K × U)} {seen : List Nat} (hn : seen.Nodup) (hl : ∀ i ∈ seen, i < l.length) (ha : ∀ i, i < l.length → i ∈ seen) : (handed l seen).Perm l := by
  have hp : seen.Perm (List.range l.length) := by
    refine (List.perm_ext_iff_of_nodup hn List.nodup_range).2 fun i => ?_
    rw [List.mem_range]
    exact ⟨hl i, ha i⟩
  have h2 : (List.range l.length).filterMap (fun i => l[i]?) = l := by
    apply List.ext_getElem?
    intro j
    have : (List.range l.length).filterMap (fun i => l[i]?) = (List.range l.length).attach.map fun x => l[x.1]'(List.mem_range.1 x.2) := by
      have : ∀ (r : List Nat) (hr : ∀ i ∈ r, i < l.length), r.filterMap (fun i => l[i]?) = r.attach.map fun x => l[x.1]'(hr x.1 x.2) := by
        intro r hr
        induction r with
        | nil => rfl
        | cons a r ih =>
          have ha := hr a (List.mem_cons_self ..)
          rw [List.filterMap_cons, List.getElem?_eq_getElem ha]
          simp only [List.attach_cons, List.map_cons, List.map_map]
          rw [ih fun i hi => hr i (List.mem_cons_of_mem _ hi)]
          rfl
      exact this _ fun i hi => List.mem_range.1 hi
    rw [this]
    by_cases hj : j < l.length
    · rw [List.getElem?_map, List.getElem?_eq_getElem (by simpa using hj), List.getElem?_eq_getElem hj]
      simp
    · rw [List.getElem?_eq_none (by simp; omega), List.getElem?_eq_none (by omega)]
  unfold handed
  have := hp.filterMap fun i => l[i]?
  rw [h2] at this
  exact this

omit [DecidableEq K] in
theorem handed_snoc (l : List (K × U)) (seen : List Nat) {i : Nat} {e : K × U} (h : l[i]? = some e) : handed l (seen ++ [i]) = handed l seen ++ [e] := by
  unfold handed
  rw [List.filterMap_append]
  simp [h]
end

/-! ### A slice that is appended to -/

/-- A slice of rows of s cells: nil, or the newest block of a family of which nothing lies below Z. -/
def OutAt (Z : Nat) (h : H) (v : AV) (s : Nat) (rows : List (List AV)) : Prop :=
  (∀ r ∈ rows, r.length = s) ∧ ((rows = [] ∧ v = .slice none 0 0 (some 0)) ∨ ∃ id fam x y, rows ≠ [] ∧ v = .slice (some (id, 0)) rows.length s none ∧ h.objs.get id = some (.cells rows.flatten fam) ∧ h.fams.get fam = some (x, y) ∧ (id = x ∨ id = y) ∧
    Z ≤ id ∧ Z ≤ x ∧ Z ≤ y ∧ Z ≤ fam ∧ id < h.next ∧ x < h.next ∧ y < h.next ∧ fam < h.next)

/-- Nothing below Z has changed. -/
structure Over (Z : Nat) (h h' : H) : Prop where
  next : h.next ≤ h'.next
  objs : ∀ j, j < Z → h'.objs.get j = h.objs.get j
  fams : ∀ f, f < Z → h'.fams.get f = h.fams.get f
  low : h.low ≤ Z → h'.low = h.low

theorem Over.refl (Z : Nat) (h : H) : Over Z h h := ⟨Nat.le_refl _, fun _ _ => rfl, fun _ _ => rfl, fun _ => rfl⟩
theorem Over.trans {Z : Nat} {h h' h'' : H} (a : Over Z h h') (b : Over Z h' h'') : Over Z h h'' :=
  ⟨Nat.le_trans a.next b.next, fun j hj => (b.objs j hj).trans (a.objs j hj), fun j hj => (b.fams j hj).trans (a.fams j hj), fun hl => (b.low (by rw [a.low hl]; exact hl)).trans (a.low hl)⟩
theorem Over.less {Z Z' : Nat} {h h' : H} (a : Over Z h h') (hz : Z' ≤ Z) : Over Z' h h' :=
  ⟨a.next, fun j hj => a.objs j (by omega), fun j hj => a.fams j (by omega), fun hl => a.low (by omega)⟩

theorem alone_over {Z : Nat} {h : H} {id fam x y : Nat} (hf : h.fams.get fam = some (x, y)) (hx : Z ≤ x) (hy : Z ≤ y) (hfm : Z ≤ fam) : Over Z h (h.alone id fam) ∧ (h.alone id fam).next = h.next := by
  unfold H.alone
  rw [hf]
  simp only
  cases hb : (Nat.beq x id && Nat.beq y id)
  · rw [cond_ff]
    refine ⟨⟨Nat.le_refl _, fun j hj => ?_, fun f hff => ?_, fun hl => ?_⟩, rfl⟩
    · simp only
      cases Nat.beq y id
      · rw [cond_ff]
        cases Nat.beq x id
        · rw [cond_ff, put_other _ _ (by omega), put_other _ _ (by omega)]
        · rw [cond_tt, put_other _ _ (by omega)]
      · rw [cond_tt, put_other _ _ (by omega)]
    · simp only; rw [put_other _ _ (by omega)]
    · simp only
      have : Z ≤ minN x y := by unfold minN; cases Nat.ble x y <;> simp <;> assumption
      exact minN_left (by omega)
  · rw [cond_tt]; exact ⟨Over.refl _ _, rfl⟩

theorem slice_cells_at {h : H} {id n s : Nat} {cs : List AV} (ho : rowO h.objs id = some cs) (hl : cs.length = n * s) : sliceCells h (some (id, 0)) n s = some cs := by
  unfold sliceCells
  simp only
  cases hb : Nat.beq n 0
  · rw [cond_ff, chunk_row, ho]
    simp only [Option.bind_some, chunkL, Nat.zero_add]
    rw [Nble (show n * s ≤ cs.length by omega), cond_tt, List.drop_zero, List.take_of_length_le (by omega)]
  · rw [cond_tt]
    have := beqN hb
    subst this
    have : cs = [] := List.length_eq_zero_iff.1 (by omega)
    rw [this]

theorem append_out {P : Program} {st xt e : TypeId} {i : TypeInfo} {z : AV} {s : Nat} (hu : P.underlying st = some (.slice e)) (hux : P.underlying xt = some (.slice e)) (hi : P.info? e = some i) (hz : zeroA P e = some z) (hzl : z.cells.length = s) (his : i.size = s) (hs0 : s ≠ 0) (hib : i.bytes ≤ 10000)
    {Z : Nat} {h : H} {v y : AV} {rows new : List (List AV)} (hv : OutAt Z h v s rows) (hZ : Z ≤ h.next) {yid : Nat} {yc : Option Nat} (hy : y = .slice (some (yid, 0)) new.length s yc) (hyr : rowO h.objs yid = some new.flatten) (hw : ∀ r ∈ new, r.length = s) (hone : new.flatten.all oneC = true) (hn0 : new ≠ [])
    (hl1 : rows.length ≤ 1000000) (hl2 : new.length ≤ 1000000) : ∃ v' h', appendA P h st xt v y = some (v', h') ∧ OutAt Z h' v' s (rows ++ new) ∧ Over Z h h' ∧ h'.next = h.next + 1 := by
  subst hy
  have hsz : i.size = z.cells.length := by rw [his, hzl]
  have hnl : Nat.beq new.length 0 = false := by
    cases hb : Nat.beq new.length 0
    · rfl
    · exact absurd (List.length_eq_zero_iff.1 (beqN hb)) hn0
  have hs0' : Nat.beq i.size 0 = false := by
    cases hb : Nat.beq i.size 0
    · rfl
    · exact absurd (beqN hb) (by rw [his]; exact hs0)
  have happ : appendedA P h e i.size xt (.slice (some (yid, 0)) new.length s yc) = some (new.length, new.flatten) := by
    unfold appendedA
    rw [hux]
    simp only [his, Nat.beq_refl, Bool.true_or, cond_tt]
    rw [slice_cells_at hyr (flat_len hw)]
    rfl
  have hfirst : (Nat.beq z.cells.length i.size && (!(Nat.beq i.size 0) && (Nat.ble rows.length 1000000 && Nat.ble i.bytes 10000))) = true := by
    rw [hsz, Nat.beq_refl, ← hsz, hs0', Nble hl1, Nble hib]; rfl
  obtain ⟨hwr, hv⟩ := hv
  rw [his] at happ hfirst hs0'
  rcases hv with ⟨rfl, rfl⟩ | ⟨id, fam, x, y, hne, rfl, ho, hf, hxy, z1, z2, z3, z4, l1, l2, l3, l4⟩
  · simp only [List.length_nil] at hfirst
    unfold appendA
    simp only [hu, hi, hz, Option.bind_some, his, hfirst, cond_tt, happ, hnl, cond_ff, Nble hl2, H.newCells]
    refine ⟨_, _, rfl, ⟨by simpa using hw, .inr ⟨h.next, h.next, h.next, h.next, by simpa using hn0, by simp, ?_, ?_, .inl rfl, hZ, hZ, hZ, hZ, Nat.lt_succ_self _, Nat.lt_succ_self _, Nat.lt_succ_self _, Nat.lt_succ_self _⟩⟩, ?_, rfl⟩
    · simp only [List.nil_append]; exact put_same _ _ _
    · exact put_same _ _ _
    · exact ⟨Nat.le_succ _, fun j hj => put_other _ _ (by omega), fun j hj => put_other _ _ (by omega), fun _ => rfl⟩
  · have hfl : rows.flatten.length = rows.length * s := flat_len hwr
    obtain ⟨a1, a2⟩ := alone_over (id := id) hf z2 z3 z4
    unfold appendA
    simp only [hu, hi, hz, Option.bind_some, his, hfirst, cond_tt, happ, hnl, cond_ff, Nble hl2, Nat.beq_refl, ho, Nat.zero_add, Nble (show rows.length * s ≤ rows.flatten.length by omega), hone]
    refine ⟨_, _, rfl, ⟨fun r hr => ?_, .inr ⟨(h.alone id fam).next, fam, id, (h.alone id fam).next, by simp [hn0], by simp, ?_, ?_, .inr rfl, ?_, z1, ?_, z4, ?_, ?_, ?_, ?_⟩⟩, ?_, ?_⟩
    · rcases List.mem_append.1 hr with hr | hr
      · exact hwr r hr
      · exact hw r hr
    · simp only [H.forked]
      rw [put_same, List.flatten_append, List.drop_zero, List.take_of_length_le (by omega)]
    · simp only [H.forked]; exact put_same _ _ _
    · rw [a2]; exact hZ
    · rw [a2]; exact hZ
    all_goals (try simp only [H.forked, a2])
    · omega
    · omega
    · omega
    · omega
    · refine ⟨by show h.next ≤ h.next + 1; omega, fun j hj => ?_, fun f hff => ?_, fun hl => ?_⟩
      · simp only
        rw [put_other _ _ (by omega), put_other _ _ (by omega)]
        exact a1.objs j hj
      · simp only
        rw [put_other _ _ (by omega)]
        exact a1.fams f hff
      · simp only
        rw [a1.low hl]; exact minN_left (by omega)

/-! ### What is handed back -/

theorem plain_rows {P : AV → Bool} {rows : List (List AV)} (h : ∀ r ∈ rows, r.all P = true) : rows.flatten.all P = true := by
  rw [List.all_eq_true]
  intro x hx
  obtain ⟨r, hr, hxr⟩ := List.mem_flatten.1 hx
  exact List.all_eq_true.1 (h r hr) x hxr

theorem canon_out {Z lo : Nat} {h : H} {v : AV} {s : Nat} {rows : List (List AV)} (hv : OutAt Z h v s rows) (hz : lo ≤ Z) (hp : ∀ r ∈ rows, r.all (plainA 4) = true) (hn : rows ≠ []) (used : List Nat) (hu : used = []) (k : Nat) :
    ∃ fam, canonV h lo (k + 1) v used [] = some (.slice (some (lo, 0)) rows.length s none, [fam], [rows.flatten]) := by
  subst hu
  obtain ⟨hw, hv⟩ := hv
  rcases hv with ⟨e, _⟩ | ⟨id, fam, x, y, hne, rfl, ho, hf, hxy, z1, z2, z3, z4, l1, l2, l3, l4⟩
  · exact absurd e hn
  · have hfl : rows.flatten.length = rows.length * s := flat_len hw
    refine ⟨fam, ?_⟩
    unfold canonV
    have hall : ((rows.flatten.drop 0).take (rows.length * s)).all (plainA 4) = true := by
      rw [List.drop_zero, List.take_of_length_le (by omega)]
      exact plain_rows hp
    simp only [ho, Nble (show lo ≤ id by omega), Nble (show lo ≤ fam by omega), List.any_nil, Bool.not_false, Bool.true_and, Nat.zero_add, Nble (show rows.length * s ≤ rows.flatten.length by omega), cond_tt, hall]
    rw [List.drop_zero, List.take_of_length_le (by omega)]
    rfl

theorem OutAt.keep {Z : Nat} {h h' : H} {v : AV} {s : Nat} {rows : List (List AV)} (hv : OutAt Z h v s rows) (ho : ∀ j, Z ≤ j → j < h.next → h'.objs.get j = h.objs.get j) (hf : ∀ j, Z ≤ j → j < h.next → h'.fams.get j = h.fams.get j) (hn : h.next ≤ h'.next) : OutAt Z h' v s rows := by
  obtain ⟨hw, hv⟩ := hv
  refine ⟨hw, ?_⟩
  rcases hv with h1 | ⟨id, fam, x, y, hne, e, g1, g2, g3, z1, z2, z3, z4, l1, l2, l3, l4⟩
  · exact .inl h1
  · exact .inr ⟨id, fam, x, y, hne, e, (ho id z1 l1).trans g1, (hf fam z4 l4).trans g2, g3, z1, z2, z3, z4, by omega, by omega, by omega, by omega⟩

theorem OutAt.nil_of {Z : Nat} {h : H} {v : AV} {s : Nat} (hv : OutAt Z h v s []) : v = .slice none 0 0 (some 0) := by
  rcases hv.2 with ⟨_, e⟩ | ⟨id, fam, x, y, hne, e, _⟩
  · exact e
  · exact absurd rfl hne

theorem OutAt.one {Z : Nat} {h : H} {v : AV} {s : Nat} {rows : List (List AV)} (hv : OutAt Z h v s rows) : v.cells = [v] := by
  rcases hv.2 with ⟨_, e⟩ | ⟨id, fam, x, y, hne, e, _⟩ <;> subst e <;> rfl
theorem OutAt.oneC {Z : Nat} {h : H} {v : AV} {s : Nat} {rows : List (List AV)} (hv : OutAt Z h v s rows) : Ev.oneC v = true := by
  rcases hv.2 with ⟨_, e⟩ | ⟨id, fam, x, y, hne, e, _⟩ <;> subst e <;> rfl

/-- A value of one cell that names nothing. -/
def bareV (w : AV) : Prop := ∀ (h : H) (lo k : Nat) (u : List Nat) (a : List (List AV)), canonV h lo (k + 1) w u a = some (w, u, a)
theorem bare_int (k : IntKind) (n : Int) : bareV (.int k n) := fun _ _ _ _ _ => rfl
theorem bare_bool (b : Bool) : bareV (.bool b) := fun _ _ _ _ _ => rfl
theorem bare_nils : bareV (.slice none 0 0 (some 0)) := fun _ _ _ _ _ => rfl

theorem canon_tup2 {h : H} {lo : Nat} {v v' w : AV} {u : List Nat} {l : List (List AV)} (hv : canonV h lo 2 v [] [] = some (v', u, l)) (hw : bareV w) : canonV h lo 3 (.tup [v, w]) [] [] = some (.tup [v', w], u, l) := by
  show (canonV.canonVs (fun v u a => canonV h lo 2 v u a) [v, w] [] []).map _ = _
  simp only [canonV.canonVs, hv, hw h lo 1, Option.map_some]

end
end Go.Ev

/- A row that is written anew in memory; the order of strings. No conditions beyond those that each theorem states. -/
namespace Go.Ev

/-- A row is written anew, of the same length. -/
theorem HR.rewrite {σ : Sg} {h : H} {w w1 : World} (hr : HR σ h w) {id fam : Nat} {cs cs' : List AV} {p : Plc} (ho : h.objs.get id = some (.cells cs fam)) (hp : σ id = some p) (hlen : cs'.length = cs.length)
    {c c' : Array Value} {e : TypeId} (hb : w.heap[p.b]? = some (.cells c e (0, 0))) (hb' : w1.heap[p.b]? = some (.cells c' e (0, 0))) (hcz : c'.size = c.size) (hV : ∀ (i : Nat) (a : AV), cs'[i]? = some a → ∃ v, c'[p.d + i]? = some v ∧ V σ a v)
    (hoth : ∀ b, b ≠ p.b → w1.heap[b]? = w.heap[b]?) (hs : w1.heap.size = w.heap.size) (e1 : w1.os = w.os) (e2 : w1.tape = w.tape) (e3 : w1.output = w.output) :
    HR σ { h.alone id fam with objs := (h.alone id fam).objs.put id (some (.cells cs' fam)), low := minN (h.alone id fam).low id } w1 ∧
    Ext σ σ h { h.alone id fam with objs := (h.alone id fam).objs.put id (some (.cells cs' fam)), low := minN (h.alone id fam).low id } w w1 := by
  obtain ⟨q, c0, e0, hq, h1, h2, h3, h4⟩ := hr.cells ho
  rw [hp] at hq; cases hq
  rw [hb] at h1; cases h1
  obtain ⟨a1, a2, a3, a4, a5, a6, a7, a8⟩ := alone_facts hr ho
  refine hr.update (o' := .cells cs' fam) ho hp ?_ a4 ?_ ?_ hoth hs e1 e2 e3 (Nat.le_trans (minN_le _ _).1 a7) ?_
  · intro j x hx
    simp only [put_get] at hx
    split at hx
    · rename_i e; cases hx; exact .inl ⟨e, rfl⟩
    · rename_i hne
      have hx' := a2 j x hx
      refine .inr ⟨hne, hx', ?_⟩
      intro q hq hbb
      obtain ⟨cs1, e1⟩ := (hr.sep j id x _ q p hne hx' ho hq hp hbb).left
      subst e1
      exact hne (a3 j cs1 hx)
  · intro i cs'' f hi
    simp only [put_get] at hi
    split at hi
    · rename_i e; cases hi; subst e; exact ⟨(hr.fam i _ _ ho).1, a5⟩
    · rename_i hne
      have hi' := a2 _ _ hi
      obtain ⟨b1, x, y, b2, b3⟩ := hr.fam i _ _ hi'
      refine ⟨b1, x, y, ?_, b3⟩
      rw [a6 f (fun e => hne (a3 i cs'' (e ▸ hi)))]
      exact b2
  · exact ⟨c', e, hb', by rw [hcz]; exact h2, by omega, hV⟩
  · intro j hj hjn
    simp only [put_get]
    have hm := minN_le (h.alone id fam).low id
    rw [if_neg (by simp only at hj; omega)]
    exact a8 j (by simp only at hj; omega)

theorem alone_fam {h : H} {id fam x y : Nat} (hf : h.fams.get fam = some (x, y)) : (h.alone id fam).fams.get fam = some (id, id) := by
  unfold H.alone
  rw [hf]
  simp only
  cases hb : (Nat.beq x id && Nat.beq y id)
  · rw [cond_ff]; exact put_same _ _ _
  · rw [cond_tt, hf]
    simp only [Bool.and_eq_true] at hb
    rw [beqN hb.1, beqN hb.2]

/-! ### The order of strings -/

theorem ltL_irrefl : ∀ a : List Nat, ltL a a = false
  | [] => rfl
  | x :: a => by
    simp only [ltL, ltL_irrefl a, Bool.and_false, Bool.or_false]
    cases hb : Nat.blt x x
    · rfl
    · exact absurd (bltN hb) (Nat.lt_irrefl _)

theorem blt_iff (a b : Nat) : Nat.blt a b = decide (a < b) := by
  by_cases h : a < b
  · have : Nat.blt a b = true := Nat.ble_eq_true_of_le h
    simp [h, this]
  · cases hb : Nat.blt a b
    · simp [h]
    · exact absurd (bltN hb) h
theorem beq_iff (a b : Nat) : Nat.beq a b = decide (a = b) := by
  by_cases h : a = b
  · subst h; simp
  · cases hb : Nat.beq a b
    · simp [h]
    · exact absurd (beqN hb) h

/-- One of the three. -/
theorem ltL_tri : ∀ a b : List Nat, ltL a b = true ∨ a = b ∨ ltL b a = true
  | [], [] => .inr (.inl rfl)
  | [], _ :: _ => .inl rfl
  | _ :: _, [] => .inr (.inr rfl)
  | x :: a, y :: b => by
    simp only [ltL, blt_iff, beq_iff]
    rcases Nat.lt_trichotomy x y with h | h | h
    · exact .inl (by simp [h])
    · subst h
      rcases ltL_tri a b with h | h | h
      · exact .inl (by simp [h])
      · exact .inr (.inl (by rw [h]))
      · exact .inr (.inr (by simp [h]))
    · exact .inr (.inr (by simp [h]))

theorem ltL_trans : ∀ {a b c : List Nat}, ltL a b = true → ltL b c = true → ltL a c = true
  | _, [], _, h, _ => by simp [ltL] at h
  | _, _ :: _, [], _, h => by simp [ltL] at h
  | [], _ :: _, _ :: _, _, _ => rfl
  | x :: a, y :: b, z :: c, h1, h2 => by
    simp only [ltL, blt_iff, beq_iff, Bool.or_eq_true, Bool.and_eq_true, decide_eq_true_eq] at h1 h2 ⊢
    rcases h1 with h1 | ⟨h1, g1⟩
    · rcases h2 with h2 | ⟨h2, _⟩
      · exact .inl (by omega)
      · exact .inl (by omega)
    · rcases h2 with h2 | ⟨h2, g2⟩
      · exact .inl (by omega)
      · exact .inr ⟨by omega, ltL_trans g1 g2⟩

theorem ltL_asymm {a b : List Nat} (h : ltL a b = true) : ltL b a = false := by
  cases hb : ltL b a
  · rfl
  · have := ltL_trans h hb
    rw [ltL_irrefl] at this; cases this

end Go.Ev

/- Calls in a region that draws its order. No conditions beyond those that each theorem states. -/
namespace Go.Ev
noncomputable section

/-- Functions that are served by what is proved of them. -/
abbrev Serv := List (FuncId × (List AV → H → Option (AV × H)))

def cvS (l : Serv) : CV := fun f args h => match f with
  | .func g => match l.find? fun x => x.1 == g with
    | some x => (x.2 args h).map fun r => [r]
    | none => none
  | _ => none

def ServOk (P : Program) (l : Serv) : Prop := ∀ x ∈ l, ∀ args h v h', x.2 args h = some (v, h') → ACalls P (.func x.1) args h (fun a b => a = v ∧ b = h')

theorem cvS_ok {P : Program} {l : Serv} (hl : ServOk P l) : CVok P (cvS l) := by
  refine ⟨?_, ?_, ?_⟩
  · intro g args h outs ho σ w args' hv hr
    simp only [cvS] at ho
    split at ho
    · rename_i x hx
      obtain ⟨⟨v, h'⟩, h1, rfl⟩ := map_some' ho
      have hm := List.mem_of_find?_eq_some hx
      have hg := List.find?_some hx
      have hg : x.1 = g := by simpa using hg
      subst hg
      exact (hl x hm args h v h' h1 σ w args' hv hr).mono fun u w' ⟨a, b, ⟨e1, e2⟩, rest⟩ => ⟨a, b, by rw [e1, e2]; exact List.mem_singleton.2 rfl, rest⟩
    · cases ho
  · intro id args h outs ho; simp [cvS] at ho
  · intro f args h outs ho
    cases f with
    | func g => exact .inl ⟨g, rfl⟩
    | _ => simp [cvS] at ho

theorem servOk_nil {P : Program} : ServOk P [] := fun x hx => by cases hx
theorem servOk_cons {P : Program} {g : FuncId} {F : List AV → H → Option (AV × H)} {l : Serv} (h : ∀ args h v h', F args h = some (v, h') → ACalls P (.func g) args h (fun a b => a = v ∧ b = h')) (hl : ServOk P l) : ServOk P ((g, F) :: l) := by
  intro x hx
  rcases List.mem_cons.1 hx with rfl | hx
  · exact h
  · exact hl x hx

section
variable {P : Program} {cv : CV} {ro : Option Nat} {base : Nat} {all : List Oper} {ms : List Nat} {n i : Nat} {o : Oper} {l : List (Nat × Oper)} {f : Nat → AV} {c c' : H} {xs al : List (Nat × AO)} {m : Nat} {cs : List (Nat × Nat × H)} {rd : List (Nat × (H → R (Option AV × H)) × AV)} {K : Dq → Prop} {d : Nat}

theorem oneA_call {r : Tr AV} {h h' : H} {cl : Call} {g : Fn} {ys cap : List AV} {v : AV} (hop : o.op = .call cl) (hdy : isDyn (.call cl) = true) (hd : dstIn o.dst n = true) (hc : callOf P r cl = some (g, ys, cap)) (hcv : cv g (ys ++ cap) h = some [(v, h')]) :
    ∃ st : St, oneA P cv ro o ⟨r, n, h, []⟩ = some [st] ∧ st.h = h' ∧ ∀ k, o.dst = some k → (st.t.get k).getD und = v := by
  have key : oneA P cv ro o ⟨r, n, h, []⟩ = (((⟨r, n, h', []⟩ : St).put o.dst v).map fun s => [s]) := by
    unfold oneA
    split
    · rename_i c' hc'; rw [hop] at hc'; cases hc'
    · rw [hop, hdy, cond_tt]
      simp only [hc, hcv, bindR, joinR, St.setH]
  rw [key]
  cases hdd : o.dst with
  | none => exact ⟨_, rfl, rfl, fun k hk => by cases hk⟩
  | some k =>
    rw [hdd] at hd
    have hk : Nat.blt k n = true := hd
    simp only [St.put, hk, cond_tt, Option.map_some]
    refine ⟨_, rfl, rfl, fun k' hk' => ?_⟩
    cases hk'
    simp only [put_same]
    rfl

/-- A call. -/
theorem DRun.k {cl : Call} {g : Fn} {ys cap zs : List AV} {v : AV} (hop : o.op = .call cl) (hdst : o.dst = some d) (hw : wantedF all f n o = some true) (hdy : isDyn (.call cl) = true) (he : isEff (.call cl) = true) (hd : Nat.blt d n = true)
    (hc : callOf P (trOf f n) cl = some (g, ys, cap)) (hzs : ys ++ cap = zs) (hcv : cv g zs (addX base (ms.getD i 0) xs c) = some [(v, c')])
    (hk : DRun P cv ro base all ms n l ⟨upd f d v, c', xs.filter (fun x => !(hasBit (ms.getD i 0) x.1)), al, Nat.lor m (ms.getD i 0), cs ++ [(i, Nat.lor m (ms.getD i 0), c')], rd⟩ K) : DRun P cv ro base all ms n ((i, o) :: l) ⟨f, c, xs, al, m, cs, rd⟩ K := by
  intro d0 hD
  subst hzs
  have hx := hD.xs; have hcc := hD.c
  simp only at hx hcc
  have hcong : callOf P (restr d0.t (looksA all o)) cl = callOf P (trOf f n) cl := callOf_congr (by
    have := hD.t.ops (all := all) (o := o)
    rw [hop] at this
    intro x hx
    exact this x (by simpa [Op.operands] using hx))
  have hdd : dstIn o.dst n = true := by rw [hdst]; exact hd
  obtain ⟨st, k1, k2, k3⟩ := oneA_call (P := P) (cv := cv) (ro := ro) (n := n) hop hdy hdd (hcong.trans hc) hcv
  have hval := k3 d hdst
  obtain ⟨d1, h1, h2⟩ := hD.setD (dst := o.dst) hdd v
  rw [hdst] at h2
  have e1 := h2.m; have e2 := h2.cs; have e3 := h2.xs
  simp only at e1 e2 e3
  have g3 : d0.xs = xs := hD.xs
  obtain ⟨d', q', h3, h4⟩ := hk { d1 with c := st.h, xs := xs.filter (fun x => !(hasBit (ms.getD i 0) x.1)), m := Nat.lor m (ms.getD i 0), cs := cs ++ [(i, Nat.lor m (ms.getD i 0), st.h)] } ⟨h2.t, k2, rfl, h2.al, rfl, by rw [k2], h2.rd⟩
  refine ⟨d', q', ?_, h4⟩
  have he' : isEff o.op = true := by rw [hop]; exact he
  simp only [drawRun, drawStep, hD.t.wanted hw, he', cond_tt, hcc, g3, k1]
  simp only [hdst] at h1 ⊢
  simp only [hval, h1, Option.map_some, e1, e2, e3]
  exact h3
end

theorem rdS_inj {h : H} {v : AV} {s : Nat} {rows rows' : List (List AV)} (hs : s ≠ 0) (h1 : RdS h v s rows) (h2 : RdS h v s rows') : rows = rows' := by
  have hlen : rows.length = rows'.length := by
    obtain ⟨_, _, _, e1⟩ := h1.len
    obtain ⟨_, _, _, e2⟩ := h2.len
    rw [e1] at e2
    simp only [AV.slice.injEq] at e2
    omega
  have hfl : rows.flatten = rows'.flatten := by
    rcases h1.at' with ⟨e, _⟩ | ⟨id, off, cap, cs, a1, a2, a3, a4, a5⟩
    · subst e
      have : rows' = [] := List.length_eq_zero_iff.1 hlen.symm
      rw [this]
    · rcases h2.at' with ⟨e, _⟩ | ⟨id', off', cap', cs', b1, b2, b3, b4, b5⟩
      · subst e
        have : rows = [] := List.length_eq_zero_iff.1 hlen
        rw [this]
      · rw [a1] at b1
        simp only [AV.slice.injEq] at b1
        obtain ⟨q1, q2, q3, q4, q5⟩ := b1
        simp only [Option.some.injEq, Prod.mk.injEq] at q1
        obtain ⟨rfl, rfl⟩ := q1
        rw [a3] at b3
        simp only [Option.some.injEq] at b3
        subst b3
        rw [← a5, ← b5, hlen]
  apply List.ext_getElem?
  intro i
  by_cases hi : i < rows.length
  · have hi' : i < rows'.length := by omega
    rw [List.getElem?_eq_getElem hi, List.getElem?_eq_getElem hi']
    congr 1
    have w1 := h1.wide _ (List.getElem_mem hi)
    have w2 := h2.wide _ (List.getElem_mem hi')
    apply List.ext_getElem?
    intro k
    by_cases hk : k < s
    · have g1 := flat_at h1.wide (List.getElem?_eq_getElem hi) hk
      have g2 := flat_at h2.wide (List.getElem?_eq_getElem hi') hk
      rw [hfl] at g1; rw [g1] at g2; exact g2
    · rw [List.getElem?_eq_none (by omega), List.getElem?_eq_none (by omega)]
  · rw [List.getElem?_eq_none (by omega), List.getElem?_eq_none (by omega)]

end
end Go.Ev

/- Rows appended to rows; functions served in regions that draw. No conditions beyond those that each theorem states. -/
namespace Go.Ev
noncomputable section

/-- A function served at some arguments. -/
def servF (g : FuncId) (p : List AV → H → Prop) (val : List AV → AV) : FuncId × (List AV → H → Option (AV × H)) :=
  (g, fun args h => @ite _ (p args h) (Classical.propDecidable _) (some (val args, h)) none)

theorem servF_ok {P : Program} {g : FuncId} {p : List AV → H → Prop} {val : List AV → AV} (hp : ∀ args h, p args h → ACalls P (.func g) args h (fun a b => a = val args ∧ b = h)) {l : Serv} (hl : ServOk P l) : ServOk P (servF g p val :: l) := by
  refine servOk_cons ?_ hl
  intro args h v h' he
  by_cases hc : p args h
  · rw [if_pos hc] at he
    cases he
    exact hp args h hc
  · rw [if_neg hc] at he; cases he

theorem cvS_servF {g : FuncId} {p : List AV → H → Prop} {val : List AV → AV} {l : Serv} {args : List AV} {h : H} (hp : p args h) : cvS (servF g p val :: l) (.func g) args h = some [(val args, h)] := by
  have hf : (servF g p val :: l).find? (fun x => x.1 == g) = some (servF g p val) := by
    rw [List.find?_cons]
    have : ((servF g p val).1 == g) = true := by show (g == g) = true; exact beq_self_eq_true g
    rw [this]
  simp only [cvS, hf]
  simp only [servF, if_pos hp, Option.map_some]

theorem append_gen {P : Program} {st xt e : TypeId} {i : TypeInfo} {z : AV} {s : Nat} (hu : P.underlying st = some (.slice e)) (hi : P.info? e = some i) (hz : zeroA P e = some z) (hzl : z.cells.length = s) (his : i.size = s) (hs0 : s ≠ 0) (hib : i.bytes ≤ 10000)
    {Z : Nat} {h : H} {v y : AV} {rows new : List (List AV)} (hv : OutAt Z h v s rows) (hZ : Z ≤ h.next) (happ : appendedA P h e s xt y = some (new.length, new.flatten)) (hw : ∀ r ∈ new, r.length = s) (hone : new.flatten.all oneC = true) (hn0 : new ≠ [])
    (hl1 : rows.length ≤ 1000000) (hl2 : new.length ≤ 1000000) : ∃ v' h', appendA P h st xt v y = some (v', h') ∧ OutAt Z h' v' s (rows ++ new) ∧ Over Z h h' ∧ h'.next = h.next + 1 := by
  have hsz : i.size = z.cells.length := by rw [his, hzl]
  have hnl : Nat.beq new.length 0 = false := by
    cases hb : Nat.beq new.length 0
    · rfl
    · exact absurd (List.length_eq_zero_iff.1 (beqN hb)) hn0
  have hs0' : Nat.beq i.size 0 = false := by
    cases hb : Nat.beq i.size 0
    · rfl
    · exact absurd (beqN hb) (by rw [his]; exact hs0)
  have hfirst : (Nat.beq z.cells.length i.size && (!(Nat.beq i.size 0) && (Nat.ble rows.length 1000000 && Nat.ble i.bytes 10000))) = true := by
    rw [hsz, Nat.beq_refl, ← hsz, hs0', Nble hl1, Nble hib]; rfl
  obtain ⟨hwr, hv⟩ := hv
  rw [his] at hfirst hs0'
  rcases hv with ⟨rfl, rfl⟩ | ⟨id, fam, x, y, hne, rfl, ho, hf, hxy, z1, z2, z3, z4, l1, l2, l3, l4⟩
  · simp only [List.length_nil] at hfirst
    unfold appendA
    simp only [hu, hi, hz, Option.bind_some, his, hfirst, cond_tt, happ, hnl, cond_ff, Nble hl2, H.newCells]
    refine ⟨_, _, rfl, ⟨by simpa using hw, .inr ⟨h.next, h.next, h.next, h.next, by simpa using hn0, by simp, ?_, ?_, .inl rfl, hZ, hZ, hZ, hZ, Nat.lt_succ_self _, Nat.lt_succ_self _, Nat.lt_succ_self _, Nat.lt_succ_self _⟩⟩, ?_, rfl⟩
    · simp only [List.nil_append]; exact put_same _ _ _
    · exact put_same _ _ _
    · exact ⟨Nat.le_succ _, fun j hj => put_other _ _ (by omega), fun j hj => put_other _ _ (by omega), fun _ => rfl⟩
  · have hfl : rows.flatten.length = rows.length * s := flat_len hwr
    obtain ⟨a1, a2⟩ := alone_over (id := id) hf z2 z3 z4
    unfold appendA
    simp only [hu, hi, hz, Option.bind_some, his, hfirst, cond_tt, happ, hnl, cond_ff, Nble hl2, Nat.beq_refl, ho, Nat.zero_add, Nble (show rows.length * s ≤ rows.flatten.length by omega), hone]
    refine ⟨_, _, rfl, ⟨fun r hr => ?_, .inr ⟨(h.alone id fam).next, fam, id, (h.alone id fam).next, by simp [hn0], by simp, ?_, ?_, .inr rfl, ?_, z1, ?_, z4, ?_, ?_, ?_, ?_⟩⟩, ?_, ?_⟩
    · rcases List.mem_append.1 hr with hr | hr
      · exact hwr r hr
      · exact hw r hr
    · simp only [H.forked]
      rw [put_same, List.flatten_append, List.drop_zero, List.take_of_length_le (by omega)]
    · simp only [H.forked]; exact put_same _ _ _
    · rw [a2]; exact hZ
    · rw [a2]; exact hZ
    all_goals (try simp only [H.forked, a2])
    · omega
    · omega
    · omega
    · omega
    · refine ⟨by show h.next ≤ h.next + 1; omega, fun j hj => ?_, fun f hff => ?_, fun hl => ?_⟩
      · simp only
        rw [put_other _ _ (by omega), put_other _ _ (by omega)]
        exact a1.objs j hj
      · simp only
        rw [put_other _ _ (by omega)]
        exact a1.fams f hff
      · simp only
        rw [a1.low hl]; exact minN_left (by omega)

/-- The empty literal, or rows that were appended. -/
def OutC (Z : Nat) (h : H) (v : AV) (s : Nat) (rows : List (List AV)) : Prop :=
  OutAt Z h v s rows ∨ (rows = [] ∧ ∃ id cs, v = .slice (some (id, 0)) 0 s (some 0) ∧ id < h.next ∧ rowO h.objs id = some cs)

theorem OutC.rd {Z : Nat} {h : H} {v : AV} {s : Nat} {rows : List (List AV)} (hv : OutC Z h v s rows) : RdS h v s rows := by
  rcases hv with ⟨hw, ⟨rfl, rfl⟩ | ⟨id, fam, x, y, hne, rfl, ho, hf, hxy, z1, z2, z3, z4, l1, l2, l3, l4⟩⟩ | ⟨rfl, id, cs, rfl, hid, hr⟩
  · exact ⟨fun r hr => (List.not_mem_nil hr).elim, .inl ⟨rfl, _, _, _, rfl⟩⟩
  · have hfl := flat_len hw
    refine ⟨hw, .inr ⟨id, 0, none, rows.flatten, rfl, l1, by unfold rowO; rw [ho]; rfl, by omega, ?_⟩⟩
    rw [List.drop_zero, List.take_of_length_le (by omega)]
  · exact ⟨fun r hr => (List.not_mem_nil hr).elim, .inr ⟨id, 0, some 0, cs, rfl, hid, hr, by simp, by simp⟩⟩

theorem appended_rd {P : Program} {h : H} {e s : Nat} {xt e' : TypeId} {y : AV} {new : List (List AV)} (hux : P.underlying xt = some (.slice e')) (hy : RdS h y s new) : appendedA P h e s xt y = some (new.length, new.flatten) := by
  unfold appendedA
  rw [hux]
  rcases hy.at' with ⟨rfl, o, e0, c, rfl⟩ | ⟨id, off, cap, cs, rfl, h2, h3, h4, h5⟩
  · simp only [List.length_nil, Nat.beq_refl, Bool.or_true, cond_tt]
    cases o <;> rfl
  · simp only [Nat.beq_refl, Bool.true_or, cond_tt]
    unfold sliceCells
    simp only
    cases hb : Nat.beq new.length 0
    · rw [cond_ff, chunk_row, h3]
      simp only [Option.bind_some, chunkL]
      rw [Nble h4, cond_tt, h5]
      rfl
    · have := List.length_eq_zero_iff.1 (beqN hb)
      subst this
      rfl

theorem append_rd {P : Program} {st xt e e' : TypeId} {i : TypeInfo} {z : AV} {s : Nat} (hu : P.underlying st = some (.slice e)) (hux : P.underlying xt = some (.slice e')) (hi : P.info? e = some i) (hz : zeroA P e = some z) (hzl : z.cells.length = s) (his : i.size = s) (hs0 : s ≠ 0) (hib : i.bytes ≤ 10000)
    {Z : Nat} {h : H} {v y : AV} {rows new : List (List AV)} (hv : OutC Z h v s rows) (hZ : Z ≤ h.next) (hy : RdS h y s new) (hone : new.flatten.all oneC = true)
    (hl1 : rows.length ≤ 1000000) (hl2 : new.length ≤ 1000000) : ∃ v' h', appendA P h st xt v y = some (v', h') ∧ OutC Z h' v' s (rows ++ new) ∧ Over Z h h' := by
  have happ := appended_rd (P := P) (e := e) (xt := xt) hux hy
  by_cases hn0 : new = []
  · subst hn0
    refine ⟨v, h, ?_, by simpa using hv, Over.refl _ _⟩
    have hbl : Nat.beq z.cells.length i.size = true := by rw [hzl, his, Nat.beq_refl]
    have hs0' : Nat.beq i.size 0 = false := by
      cases hb : Nat.beq i.size 0
      · rfl
      · exact absurd (beqN hb) (by rw [his]; exact hs0)
    obtain ⟨o, e1, c, rfl⟩ := hv.rd.len
    unfold appendA
    simp only [hu, hi, hz, Option.bind_some, hbl, hs0', Nble hl1, Nble hib, Bool.not_false, Bool.and_self, cond_tt]
    rw [his, happ]
    rfl
  · rcases hv with hv | ⟨rfl, id, cs, rfl, hid, hr⟩
    · obtain ⟨v', h', g1, g2, g3, _⟩ := append_gen (P := P) (st := st) hu hi hz hzl his hs0 hib hv hZ happ hy.wide hone hn0 hl1 hl2
      exact ⟨v', h', g1, .inl g2, g3⟩
    · have hbl : Nat.beq z.cells.length i.size = true := by rw [hzl, his, Nat.beq_refl]
      have hs0' : Nat.beq i.size 0 = false := by
        cases hb : Nat.beq i.size 0
        · rfl
        · exact absurd (beqN hb) (by rw [his]; exact hs0)
      have hnl : Nat.beq new.length 0 = false := by
        cases hb : Nat.beq new.length 0
        · rfl
        · exact absurd (List.length_eq_zero_iff.1 (beqN hb)) hn0
      have hnb : Nat.ble new.length 0 = false := by
        cases hb : Nat.ble new.length 0
        · rfl
        · have := Nat.le_of_ble_eq_true hb
          exact absurd (List.length_eq_zero_iff.1 (by omega)) hn0
      have hse : Nat.beq s i.size = true := by rw [his, Nat.beq_refl]
      refine ⟨.slice (some (h.next, 0)) new.length s none, (h.newCells ([] ++ new.flatten)).2, ?_, .inl ⟨by simpa using hy.wide, .inr ⟨h.next, h.next, h.next, h.next, by simpa using hn0, by simp, ?_, ?_, .inl rfl, hZ, hZ, hZ, hZ, Nat.lt_succ_self _, Nat.lt_succ_self _, Nat.lt_succ_self _, Nat.lt_succ_self _⟩⟩, ?_⟩
      · unfold appendA
        simp only [hu, hi, hz, Option.bind_some, hbl, hs0', Nble (show 0 ≤ 1000000 by omega), Nble hib, Bool.not_false, Bool.and_self, cond_tt]
        rw [his, happ]
        simp only [Option.bind_some, hnl, cond_ff, Nble hl2, cond_tt, Nat.beq_refl, hnb, sliceCells, Option.map_some, H.newCells, Nat.zero_add]
      · simp only [List.nil_append, H.newCells]; exact put_same _ _ _
      · exact put_same _ _ _
      · exact ⟨Nat.le_succ _, fun j hj => put_other _ _ (by omega), fun j hj => put_other _ _ (by omega), fun _ => rfl⟩

end
end Go.Ev

/- From a row's arguments to the abstract heap, and back. No conditions beyond those that each theorem states. -/
namespace Go.Ev
open Go.RowKit Go.ChangeShapes Go.WideShapes Go.Deep
noncomputable section

/-- The rows of the arguments: where each lies, and what it holds. -/
abbrev ArgL := List (Plc × Option (List AV))

def sgL (l : ArgL) : Sg := fun id => (l[id]?).map (·.1)
def putL : ArgL → Nat → Tr AO → Tr AO
  | [], _, t => t
  | (_, oc) :: l, i, t => putL l (i + 1) (match oc with | some cs => t.put i (some (.ro cs)) | none => t)
def hpL (l : ArgL) : H := { objs := putL l 0 .nil, fams := .nil, next := l.length, low := 0 }

theorem putL_get : ∀ (l : ArgL) (i : Nat) (t : Tr AO) (j : Nat), (putL l i t).get j = if i ≤ j ∧ j < i + l.length then (match (l[j - i]?).bind (·.2) with | some cs => some (.ro cs) | none => t.get j) else t.get j
  | [], i, t, j => by rw [if_neg (by simp)]; rfl
  | (p, oc) :: l, i, t, j => by
    unfold putL
    rw [putL_get l (i + 1)]
    by_cases hj : j = i
    · subst hj
      rw [if_neg (by omega), if_pos (by simp), Nat.sub_self]
      cases oc with
      | none => rfl
      | some cs => exact put_same _ _ _
    · have ht : (match oc with | some cs => t.put i (some (.ro cs)) | none => t).get j = t.get j := by
        cases oc with
        | none => rfl
        | some cs => exact put_other _ _ hj
      rw [ht]
      by_cases h : i + 1 ≤ j ∧ j < i + 1 + l.length
      · rw [if_pos h, if_pos (by simp; omega)]
        have e : j - i = (j - (i + 1)) + 1 := by omega
        rw [e, List.getElem?_cons_succ]
      · rw [if_neg h, if_neg (by simp; omega)]

theorem hpL_get (l : ArgL) (j : Nat) : (hpL l).objs.get j = ((l[j]?).bind (·.2)).map .ro := by
  show (putL l 0 .nil).get j = _
  rw [putL_get, Nat.sub_zero, Nat.zero_add]
  by_cases h : j < l.length
  · rw [if_pos ⟨Nat.zero_le _, h⟩]
    cases hb : (l[j]?).bind (·.2) with
    | none => exact get_nil _
    | some cs => rfl
  · rw [if_neg (by omega), List.getElem?_eq_none (by omega)]
    exact get_nil _

/-- What a row of an argument asks of memory. -/
def InMem (w : World) (x : Plc × Option (List AV)) : Prop := ∀ cs, x.2 = some cs → ∃ c e f, w.heap[x.1.b]? = some (.cells c e f) ∧ x.1.d + x.1.r ≤ c.size ∧ cs.length ≤ x.1.r ∧ ∀ (i : Nat) (a : AV), cs[i]? = some a → ∃ v, c[x.1.d + i]? = some v ∧ ∀ σ : Sg, V σ a v

theorem hpL_HR {w : World} {l : ArgL} (hl : ∀ x ∈ l, InMem w x) : HR (sgL l) (hpL l) w := by
  refine ⟨?_, ?_, ?_, ?_, Nat.zero_le _⟩
  · intro id o ho
    rw [hpL_get] at ho
    obtain ⟨cs, h1, rfl⟩ := map_some' ho
    cases hx : l[id]? with
    | none => rw [hx] at h1; cases h1
    | some x =>
      rw [hx] at h1
      obtain ⟨c, e, f, k1, k2, k3, k4⟩ := hl x (List.mem_of_getElem? hx) cs h1
      refine ⟨x.1, by unfold sgL; rw [hx]; rfl, c, e, f, k1, k2, k3, fun i a ha => ?_⟩
      obtain ⟨v, g1, g2⟩ := k4 i a ha
      exact ⟨v, g1, g2 _⟩
  · intro id hid
    have hid : l.length ≤ id := hid
    unfold sgL; rw [List.getElem?_eq_none hid]; rfl
  · intro i j o o' p q hij hi hj _ _ _
    rw [hpL_get] at hi hj
    obtain ⟨cs, _, rfl⟩ := map_some' hi
    obtain ⟨cs', _, rfl⟩ := map_some' hj
    exact .inr ⟨cs, cs', rfl, rfl⟩
  · intro i cs f hi
    rw [hpL_get] at hi
    obtain ⟨cs', _, e⟩ := map_some' hi
    cases e

theorem ext_belowL {l : ArgL} {σ' : Sg} {h' : H} {w w' : World} (hE : Ext (sgL l) σ' (hpL l) h' w w') : Below w.heap.size w w' :=
  ⟨hE.os, hE.tape, hE.output, hE.size, fun k hk => hE.frame k hk fun id o p ho hw => by
    rw [hpL_get] at ho
    obtain ⟨cs, _, rfl⟩ := map_some' ho
    exact absurd rfl (hw cs)⟩

/-- A law that is true over the abstract heap is true in memory. -/
theorem law_run {P : Program} (hng : NoGo P) {f : FuncId} {fn : Func} (hf : P.funcs[f]? = some fn) (hb : fn.body.isSome = true) {l : ArgL} {w : World} {args : List AV} {args' : Array Value} (hl : ∀ x ∈ l, InMem w x) (hv : VL (sgL l) args args'.toList)
    (hc : ACalls P (.func f) args (hpL l) (fun a h' => a = .bool true ∧ h' = hpL l)) : Calls P f args' w fun e w' => e = .returned (.bool true) ∧ Below w.heap.size w w' := by
  have hfine := hc (sgL l) w args' hv (hpL_HR hl)
  rw [callFunc_enter hng hf hb] at hfine
  refine Calls.mono hfine fun e w' ⟨x, he, a, h', ⟨ha, hh⟩, σ', hV, hr', hE⟩ => ?_
  subst ha; subst hh
  cases hV
  exact ⟨he, ext_belowL hE⟩

/-! ### A slice of rows -/

theorem cell_open {w : World} {b o : Nat} {v : Value} (h : w.cell? ⟨b, o, none⟩ = some v) : ∃ c e f, w.heap[b]? = some (.cells c e f) ∧ c[o]? = some v := by
  unfold World.cell? at h
  split at h
  · rename_i c e f hb
    split at h
    · cases h
    · exact ⟨c, e, f, hb, h⟩
  · cases h

/-- What is known of a slice of rows, before the call. -/
structure Slc (w : World) (s : Nat) (R : List AV → Prop) (v : Value) (g : Nat → AV) (x : Plc × Option (List AV)) (rows : List (List AV)) : Prop where
  rel : ∀ (σ : Sg) (id : Nat), σ id = some x.1 → V σ (g id) v
  rds : ∀ (h : H) (id : Nat), id < h.next → h.objs.get id = x.2.map .ro → RdS h (g id) s rows
  mem : InMem w x
  row : ∀ r ∈ rows, R r
  top : ∀ id n, eqTop (n + 1) (g id) (g id) = true

variable {Hh : Type} {enc : TypeId × Value → Hh} {P : Program} {w : World} {held : Bool}

theorem rows_in {s : Nat} {b o len : Nat} {F : Nat → List AV} {c : Array Value} (hF : ∀ i, i < len → (F i).length = s ∧ ∀ k a, (F i)[k]? = some a → ∃ v, c[o + (i * s + k)]? = some v ∧ ∀ σ : Sg, V σ a v) (hs : 0 < s) :
    ((List.range len).map F).flatten.length = len * s ∧ ∀ (i : Nat) (a : AV), ((List.range len).map F).flatten[i]? = some a → ∃ v, c[o + i]? = some v ∧ ∀ σ : Sg, V σ a v := by
  have hw : ∀ r ∈ (List.range len).map F, r.length = s := by
    intro r hr
    obtain ⟨i, hi, rfl⟩ := List.mem_map.1 hr
    exact (hF i (List.mem_range.1 hi)).1
  have hl := flat_len hw
  rw [List.length_map, List.length_range] at hl
  refine ⟨hl, fun i a ha => ?_⟩
  have hi : i < len * s := by
    rw [← hl]
    apply Decidable.byContradiction; intro h
    rw [List.getElem?_eq_none (by omega)] at ha; cases ha
  have hq : i / s < len := (Nat.div_lt_iff_lt_mul hs).2 hi
  have hr : i % s < s := Nat.mod_lt _ hs
  have he : i / s * s + i % s = i := by rw [Nat.mul_comm]; exact Nat.div_add_mod i s
  have hg : ((List.range len).map F)[i / s]? = some (F (i / s)) := by
    rw [List.getElem?_map, List.getElem?_range hq]; rfl
  have h1 := flat_at hw hg hr
  rw [he, ha] at h1
  obtain ⟨v, k1, k2⟩ := (hF _ hq).2 _ a h1.symm
  rw [he] at k1
  exact ⟨v, k1, k2⟩

theorem Slc.of {t e : TypeId} {s : Nat} {R : List AV → Prop} {v : Value} {d : DataW Hh} {ps : List MemPlace} {a0 : Option Addr} {n0 c0 : Nat} (hv : v = .slice a0 n0 c0) (ht : P.underlying t = some (.slice e)) (hs : P.cellsOf e = s) (hs0 : 0 < s)
    (hd : DataW.Trod enc P w 0 (fun _ => true) held t v d ps)
    (hrow : ∀ n cs y, DataW.trod enc P w 0 (fun _ => true) held n e cs = some y → ∃ r : List AV, R r ∧ r.length = cs.length ∧ ∀ (k : Nat) (a : AV) (u : Value), r[k]? = some a → cs[k]? = some u → ∀ σ : Sg, V σ a u) :
    ∃ g x rows, Slc w s R v g x rows := by
  subst hv
  obtain ⟨fuel, hf⟩ := hd
  rcases open_slice ht hf with ⟨hcs, _⟩ | ⟨a, len, cap, m, n, D, Pl, hcs, _, hl, _, hm, _, hx⟩
  · have hcs : ([Value.slice a0 n0 c0] : List Value) = [.slice none 0 0] := hcs
    simp only [List.cons.injEq, Value.slice.injEq, and_true] at hcs
    obtain ⟨rfl, rfl, rfl⟩ := hcs
    exact ⟨fun _ => .slice none 0 0 (some 0), (⟨0, 0, 0⟩, none), [], fun _ _ _ => .sliceN rfl, fun _ _ _ _ => ⟨fun r hr => (List.not_mem_nil hr).elim, .inl ⟨rfl, _, _, _, rfl⟩⟩, fun _ h => (by cases h), fun r hr => (List.not_mem_nil hr).elim, fun _ _ => rfl⟩
  · have hcs : ([Value.slice a0 n0 c0] : List Value) = [.slice (some a) len cap] := hcs
    simp only [List.cons.injEq, Value.slice.injEq, and_true] at hcs
    obtain ⟨rfl, rfl, rfl⟩ := hcs
    simp only [if_true] at hm
    subst hm
    rcases Nat.eq_zero_or_pos m with hm0 | hm0
    · subst hm0
      have : n0 = 0 := by omega
      subst this
      exact ⟨fun id => .slice (some (id, 0)) 0 s (some 0), (⟨0, 0, 0⟩, none), [], fun _ _ h => .slice h (Nat.le_refl _) (by simp) (fun x hx => by cases hx; rfl) (.inr rfl), fun _ _ _ _ => ⟨fun r hr => (List.not_mem_nil hr).elim, .inl ⟨rfl, _, _, _, rfl⟩⟩, fun _ h => (by cases h), fun r hr => (List.not_mem_nil hr).elim, fun _ _ => eqTop_slice _ _ _ _ _ _⟩
    · have hspot : a.spot = none := by
        obtain ⟨cs', h1, _⟩ := hx 0 hm0
        obtain ⟨_, h2, h3⟩ := World.cells?_some h1
        have h4 := h3 0 (by omega)
        have h5 : 0 < cs'.length := by omega
        rw [List.getElem?_eq_getElem h5] at h4
        have := World.cell?_spot h4
        simpa [Addr.add] using this
      obtain ⟨b, o, sp⟩ := a
      simp only at hspot
      subst hspot
      have hcell : ∀ i, i < m → ∃ cs', cs'.length = s ∧ (∀ k, k < s → w.cell? ⟨b, o + (i * s + k), none⟩ = cs'[k]?) ∧ ∃ y, DataW.trod enc P w 0 (fun _ => true) held n e cs' = some y := by
        intro i hi
        obtain ⟨cs', h1, h2⟩ := hx i hi
        obtain ⟨_, h3, h4⟩ := World.cells?_some h1
        rw [hs] at h3
        refine ⟨cs', h3, fun k hk => ?_, _, h2⟩
        have := h4 k (by omega)
        rw [add_addr, add_addr, hs] at this
        rw [← this]; congr 2; omega
      -- the block
      obtain ⟨cs0, hc1, hc2, _⟩ := hcell 0 hm0
      have h00 := hc2 0 hs0
      rw [List.getElem?_eq_getElem (by omega)] at h00
      obtain ⟨c, e', f, hb, _⟩ := cell_open h00
      have hgc : ∀ k v, w.cell? ⟨b, k, none⟩ = some v → c[k]? = some v := by
        intro k v hk
        obtain ⟨c', e'', f', hb', hv'⟩ := cell_open hk
        rw [hb] at hb'; cases hb'; exact hv'
      have hsz : o + m * s ≤ c.size := by
        obtain ⟨cs1, g1, g2, _⟩ := hcell (m - 1) (by omega)
        have h01 := g2 (s - 1) (by omega)
        rw [List.getElem?_eq_getElem (by omega)] at h01
        have := hgc _ _ h01
        have hlt : o + ((m - 1) * s + (s - 1)) < c.size := by
          apply Decidable.byContradiction; intro hn
          rw [Array.getElem?_eq_none (by omega)] at this; cases this
        have hmul : m * s = (m - 1) * s + s := by
          have h9 := Nat.add_mul (m - 1) 1 s
          rw [Nat.sub_add_cancel hm0, Nat.one_mul] at h9
          exact h9
        omega
      obtain ⟨F, hF⟩ := choose_lt (α := List AV) (n := n0) (p := fun i r => R r ∧ r.length = s ∧ ∀ k a, r[k]? = some a → ∃ v, c[o + (i * s + k)]? = some v ∧ ∀ σ : Sg, V σ a v) (fun i hi => by
        obtain ⟨cs', g1, g2, y, g3⟩ := hcell i (by omega)
        obtain ⟨r, r1, r2, r3⟩ := hrow n cs' y g3
        refine ⟨r, r1, by omega, fun k a hk => ?_⟩
        have hk' : k < s := by
          apply Decidable.byContradiction; intro hn
          rw [List.getElem?_eq_none (by omega)] at hk; cases hk
        have hu : cs'[k]? = some (cs'[k]'(by omega)) := List.getElem?_eq_getElem (by omega)
        refine ⟨_, hgc _ _ ((g2 k hk').trans hu), r3 k a _ hk hu⟩)
      obtain ⟨k1, k2⟩ := rows_in (b := b) (o := o) (len := n0) (F := F) (c := c) (fun i hi => (hF i hi).2) hs0
      have hw : ∀ r ∈ (List.range n0).map F, r.length = s := by
        intro r hr
        obtain ⟨i, hi, rfl⟩ := List.mem_map.1 hr
        exact (hF i (List.mem_range.1 hi)).2.1
      have hle : n0 * s ≤ m * s := Nat.mul_le_mul_right s hl
      refine ⟨fun id => .slice (some (id, 0)) n0 s (some m), (⟨b, o, m * s⟩, some ((List.range n0).map F).flatten), (List.range n0).map F, ?_, ?_, ?_, ?_, fun _ _ => eqTop_slice _ _ _ _ _ _⟩
      · intro σ id hσ
        exact .slice hσ hl (by simp) (fun x hx => by cases hx; rfl) (.inl rfl)
      · intro h id hid hget
        refine ⟨hw, .inr ⟨id, 0, some m, ((List.range n0).map F).flatten, by simp, hid, by unfold rowO; rw [hget]; rfl, by simp [k1], ?_⟩⟩
        rw [List.drop_zero, List.take_of_length_le (by simp [k1])]
      · intro cs hcs
        cases hcs
        exact ⟨c, e', f, hb, hsz, by rw [k1]; exact hle, k2⟩
      · intro r hr
        obtain ⟨i, hi, rfl⟩ := List.mem_map.1 hr
        exact (hF i (List.mem_range.1 hi)).1

/-- The bytes of a string. -/
theorem str_V (σ : Sg) (s : ByteArray) : V σ (.str (s.data.toList.map (·.toNat))) (.string s) := .str rfl
theorem bytes_lt (s : ByteArray) : ∀ b ∈ s.data.toList.map (·.toNat), b < 256 := by
  intro b hb
  obtain ⟨u, _, rfl⟩ := List.mem_map.1 hb
  exact u.toNat_lt

end
end Go.Ev

/- Stores in regions that draw; the lesser and the greater; numbers turned. No conditions beyond those that each theorem states. -/
namespace Go.Ev

theorem minA_min {k : IntKind} {a b : Int} : minA false (.int k a) (.int k b) = some (.int k (if a ≤ b then a else b)) := by
  simp only [minA, leI_eq, cond_ff]
  by_cases h : a ≤ b <;> simp [h]
theorem minA_max {k : IntKind} {a b : Int} : minA true (.int k a) (.int k b) = some (.int k (if b ≤ a then a else b)) := by
  simp only [minA, leI_eq, cond_tt]
  by_cases h : b ≤ a <;> simp [h]

theorem bi_min {P : Program} {h : H} {l : List TypeId} {t : TypeId} {k : IntKind} {a b : Int} : builtinA P h .min (t :: l) [.int k a, .int k b] = some (.int k (if a ≤ b then a else b), h) := by
  simp only [builtinA, foldMin, minA_min, Option.bind_some, Option.map_some]
theorem bi_max {P : Program} {h : H} {l : List TypeId} {t : TypeId} {k : IntKind} {a b : Int} : builtinA P h .max (t :: l) [.int k a, .int k b] = some (.int k (if b ≤ a then a else b), h) := by
  simp only [builtinA, foldMin, minA_max, Option.bind_some, Option.map_some]

theorem alloc_at {P : Program} {r : Tr AV} {e : TypeId} {id : Nat} {z : AV} (hz : zeroA P e = some z) : allocA P r (.alloc e) id = some (.ptr (some (id, 0)), .cells z.cells id) := by
  simp only [allocA, hz]; rfl

section
variable {P : Program} {cv : CV} {ro : Option Nat} {base : Nat} {all : List Oper} {ms : List Nat} {n i : Nat} {o : Oper} {l : List (Nat × Oper)} {f : Nat → AV} {c c1 c' : H} {xs al : List (Nat × AO)} {m : Nat} {cs : List (Nat × Nat × H)} {rd : List (Nat × (H → R (Option AV × H)) × AV)} {K : Dq → Prop}

/-- A store into a new object. -/
theorem DRun.st {tt : TypeId} {a x : Operand} {id off fam : Nat} {v : AV} {bs bs' : List AV} {lw : Nat} (hop : o.op = .store tt a x) (hdst : o.dst = none) (hw : wantedF all f n o = some true)
    (hc1 : addX base (ms.getD i 0) xs c = c1) (ha : ev (trOf f n) a = some (.ptr (some (id, off)))) (hx : ev (trOf f n) x = some v) (hs : sizeA P tt = some v.cells.length) (ho : c1.objs.get id = some (.cells bs fam)) (hf : c1.fams.get fam = some (id, id))
    (hle : Nat.ble (off + v.cells.length) bs.length = true) (h1 : v.cells.all oneC = true) (hcs : bs.take off ++ (v.cells ++ bs.drop (off + v.cells.length)) = bs') (hlw : minN c1.low id = lw)
    (hc' : { c1 with objs := c1.objs.put id (some (.cells bs' fam)), low := lw } = c')
    (hk : DRun P cv ro base all ms n l ⟨f, c', xs.filter (fun x => !(hasBit (ms.getD i 0) x.1)), al, Nat.lor m (ms.getD i 0), cs ++ [(i, Nat.lor m (ms.getD i 0), c')], rd⟩ K) : DRun P cv ro base all ms n ((i, o) :: l) ⟨f, c, xs, al, m, cs, rd⟩ K := by
  subst hcs; subst hlw; subst hc'
  have hop' : opA P (trOf f n) (addX base (ms.getD i 0) xs c) (.store tt a x) = some [(none, { c1 with objs := c1.objs.put id (some (.cells (bs.take off ++ (v.cells ++ bs.drop (off + v.cells.length))) fam)), low := minN c1.low id })] := by
    rw [hc1, op_store, ha, hx, store_some, storeVar_at hs ho hf hle h1]
    rfl
  refine DRun.e hop hw rfl rfl rfl (by rw [hdst]; rfl) hop' ?_
  rw [hdst]
  exact hk
/-- An effect, on the heap with the new objects in it. -/
theorem DRun.e1 {op : Op} {rv : Option AV} (hop : o.op = op) (hw : wantedF all f n o = some true) (he : isEff op = true) (hnd : noDefer op = true) (hdy : isDyn op = false) (hd : dstIn o.dst n = true) (hc1 : addX base (ms.getD i 0) xs c = c1) (ho : opA P (trOf f n) c1 op = some [(rv, c')])
    (hk : DRun P cv ro base all ms n l ⟨updo f o.dst (orU rv), c', xs.filter (fun x => !(hasBit (ms.getD i 0) x.1)), al, Nat.lor m (ms.getD i 0), cs ++ [(i, Nat.lor m (ms.getD i 0), c')], rd⟩ K) : DRun P cv ro base all ms n ((i, o) :: l) ⟨f, c, xs, al, m, cs, rd⟩ K :=
  DRun.e hop hw he hnd hdy hd (by rw [hc1]; exact ho) hk
end

end Go.Ev

/- The rules of one step, together. No conditions beyond those that each theorem states. -/
namespace Go.Ev
theorem evS : (type_of% (@cells_agg)) ∧
  (type_of% (@cells_str)) ∧
  (type_of% (@cells_int)) ∧
  (type_of% (@cells_bool)) ∧
  (type_of% (@cells_ptr)) ∧
  (type_of% (@cells_slice)) ∧
  (type_of% (@cells_map)) ∧
  (type_of% (@cells_fn)) ∧
  (type_of% (@op_move)) ∧
  (type_of% (@op_assign)) ∧
  (type_of% (@op_pick)) ∧
  (type_of% (@pick_some)) ∧
  (type_of% (@op_alloc)) ∧
  (type_of% (@op_box)) ∧
  (type_of% (@op_build)) ∧
  (type_of% (@op_load)) ∧
  (type_of% (@load_some)) ∧
  (type_of% (@op_store)) ∧
  (type_of% (@store_some)) ∧
  (type_of% (@op_bin)) ∧
  (type_of% (@op_un)) ∧
  (type_of% (@un_not)) ∧
  (type_of% (@op_fieldAddr)) ∧
  (type_of% (@op_indexAddr)) ∧
  (type_of% (@op_index)) ∧
  (type_of% (@op_field)) ∧
  (type_of% (@op_extract)) ∧
  (type_of% (@extract_0)) ∧
  (type_of% (@extract_1)) ∧
  (type_of% (@extract_2)) ∧
  (type_of% (@op_builtin)) ∧
  (type_of% (@bi_len)) ∧
  (type_of% (@op_func)) ∧
  (type_of% (@ev_tmp)) ∧
  (type_of% (@ev_const)) ∧
  (type_of% (@ev_func)) ∧
  (type_of% (@upd_eq)) ∧
  (type_of% (@evs_nil)) ∧
  (type_of% (@evs_cons)) ∧
  (type_of% (@bin_seql)) ∧
  (type_of% (@bin_sneq)) ∧
  (type_of% (fun {P : Program} {t : TypeId} {a b : Int} => @bin_lss P t a b _ k_i64)) ∧
  (type_of% (fun {P : Program} {t : TypeId} {a b : Int} => @bin_leq P t a b _ k_i64)) ∧
  (type_of% (fun {P : Program} {t : TypeId} {a b : Int} => @bin_gtr P t a b _ k_i64)) ∧
  (type_of% (fun {P : Program} {t : TypeId} {a b : Int} => @bin_geq P t a b _ k_i64)) ∧
  (type_of% (fun {P : Program} {t : TypeId} {a b : Int} => @bin_eql P t a b _ k_i64)) ∧
  (type_of% (fun {P : Program} {t : TypeId} {a b : Int} => @bin_neq P t a b _ k_i64)) ∧
  (type_of% (fun {P : Program} {t : TypeId} {a b : Int} => @bin_lss P t a b _ k_u8)) ∧
  (type_of% (fun {P : Program} {t : TypeId} {a b : Int} => @bin_leq P t a b _ k_u8)) ∧
  (type_of% (fun {P : Program} {t : TypeId} {a b : Int} => @bin_gtr P t a b _ k_u8)) ∧
  (type_of% (fun {P : Program} {t : TypeId} {a b : Int} => @bin_geq P t a b _ k_u8)) ∧
  (type_of% (fun {P : Program} {t : TypeId} {a b : Int} => @bin_eql P t a b _ k_u8)) ∧
  (type_of% (fun {P : Program} {t : TypeId} {a b : Int} => @bin_neq P t a b _ k_u8)) :=
  ⟨@cells_agg,
  @cells_str,
  @cells_int,
  @cells_bool,
  @cells_ptr,
  @cells_slice,
  @cells_map,
  @cells_fn,
  @op_move,
  @op_assign,
  @op_pick,
  @pick_some,
  @op_alloc,
  @op_box,
  @op_build,
  @op_load,
  @load_some,
  @op_store,
  @store_some,
  @op_bin,
  @op_un,
  @un_not,
  @op_fieldAddr,
  @op_indexAddr,
  @op_index,
  @op_field,
  @op_extract,
  @extract_0,
  @extract_1,
  @extract_2,
  @op_builtin,
  @bi_len,
  @op_func,
  @ev_tmp,
  @ev_const,
  @ev_func,
  @upd_eq,
  @evs_nil,
  @evs_cons,
  @bin_seql,
  @bin_sneq,
  fun {P : Program} {t : TypeId} {a b : Int} => @bin_lss P t a b _ k_i64,
  fun {P : Program} {t : TypeId} {a b : Int} => @bin_leq P t a b _ k_i64,
  fun {P : Program} {t : TypeId} {a b : Int} => @bin_gtr P t a b _ k_i64,
  fun {P : Program} {t : TypeId} {a b : Int} => @bin_geq P t a b _ k_i64,
  fun {P : Program} {t : TypeId} {a b : Int} => @bin_eql P t a b _ k_i64,
  fun {P : Program} {t : TypeId} {a b : Int} => @bin_neq P t a b _ k_i64,
  fun {P : Program} {t : TypeId} {a b : Int} => @bin_lss P t a b _ k_u8,
  fun {P : Program} {t : TypeId} {a b : Int} => @bin_leq P t a b _ k_u8,
  fun {P : Program} {t : TypeId} {a b : Int} => @bin_gtr P t a b _ k_u8,
  fun {P : Program} {t : TypeId} {a b : Int} => @bin_geq P t a b _ k_u8,
  fun {P : Program} {t : TypeId} {a b : Int} => @bin_eql P t a b _ k_u8,
  fun {P : Program} {t : TypeId} {a b : Int} => @bin_neq P t a b _ k_u8⟩
end Go.Ev
