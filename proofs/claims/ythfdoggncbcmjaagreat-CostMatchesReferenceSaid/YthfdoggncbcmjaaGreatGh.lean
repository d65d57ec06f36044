/- Deep values: in memory, in the abstract heap, laid anew. No conditions beyond those that each theorem states. -/
import Derived.Test.YthfdoggncbcmjaaGreatGg
import Derived.Test.YthfdoggncbcmjaaGreatGa
import Derived.SizedLaws

set_option linter.unusedSimpArgs false
set_option linter.unusedVariables false
set_option linter.unusedSectionVars false

namespace Go.Ev
open Go.RowKit
noncomputable section

mutual
/-- A value of memory reads as a deep value. -/
def Wd (w : World) : DV → Value → Prop
  | .fl a, v => flatA a = true ∧ ∀ σ : Sg, V σ a v
  | .sl nl n e cs, v => (nl = true ∧ n = 0 ∧ cs = [] ∧ v = .slice none 0 0) ∨
      (nl = false ∧ ∃ a c, v = .slice (some a) n c ∧ n ≤ c ∧ ((n = 0 ∧ cs = [] ∧ (a.spot = none ∨ c = 0)) ∨
        (0 < n ∧ a.spot = none ∧ ∃ arr ty f us, w.heap[a.block]? = some (.cells arr ty f) ∧ a.off + c * e ≤ arr.size ∧ us.length = n * e ∧ (∀ (i : Nat) u, us[i]? = some u → arr[a.off + i]? = some u) ∧ WdL w cs us)))
  | .ag cs, v => ∃ vs, v = .agg vs ∧ WdL w cs vs.toList
def WdL (w : World) : List DV → List Value → Prop
  | [], us => us = []
  | d :: ds, us => ∃ u r, us = u :: r ∧ Wd w d u ∧ WdL w ds r
end

mutual
/-- A value of the abstract heap reads as a deep value. s: nil and empty are told apart (and an empty one that is not nil is not read). -/
def Dp (s : Bool) (h : H) : DV → AV → Prop
  | .fl a0, a => a = a0 ∧ flatA a0 = true
  | .sl nl n e cs, a => (n = 0 ∧ cs = [] ∧ (∃ o e' c, a = .slice o 0 e' c ∧ (o = none → c = some 0)) ∧ (s = true → nl = true ∧ a = .slice none 0 e (some 0))) ∨
      ((s = true → nl = false ∧ 0 < n) ∧ ∃ id off cap row as, a = .slice (some (id, off)) n e cap ∧ id < h.next ∧ rowO h.objs id = some row ∧ off + n * e ≤ row.length ∧ as = (row.drop off).take (n * e) ∧ DpL s h cs as)
  | .ag cs, a => ∃ as, a = .agg as ∧ DpL s h cs as
def DpL (s : Bool) (h : H) : List DV → List AV → Prop
  | [], as => as = []
  | d :: ds, as => ∃ a r, as = a :: r ∧ Dp s h d a ∧ DpL s h ds r
end

section
variable {w : World} {s : Bool} {h : H}
theorem Wd_fl {a : AV} {v : Value} : Wd w (.fl a) v ↔ flatA a = true ∧ ∀ σ : Sg, V σ a v := by rw [Wd]
theorem Wd_sl {nl : Bool} {n e : Nat} {cs : List DV} {v : Value} : Wd w (.sl nl n e cs) v ↔ (nl = true ∧ n = 0 ∧ cs = [] ∧ v = .slice none 0 0) ∨
      (nl = false ∧ ∃ a c, v = .slice (some a) n c ∧ n ≤ c ∧ ((n = 0 ∧ cs = [] ∧ (a.spot = none ∨ c = 0)) ∨
        (0 < n ∧ a.spot = none ∧ ∃ arr ty f us, w.heap[a.block]? = some (.cells arr ty f) ∧ a.off + c * e ≤ arr.size ∧ us.length = n * e ∧ (∀ (i : Nat) u, us[i]? = some u → arr[a.off + i]? = some u) ∧ WdL w cs us))) := by rw [Wd]
theorem Wd_ag {cs : List DV} {v : Value} : Wd w (.ag cs) v ↔ ∃ vs, v = .agg vs ∧ WdL w cs vs.toList := by rw [Wd]
theorem WdL_nil {us : List Value} : WdL w [] us ↔ us = [] := by rw [WdL]
theorem WdL_cons {d : DV} {ds : List DV} {us : List Value} : WdL w (d :: ds) us ↔ ∃ u r, us = u :: r ∧ Wd w d u ∧ WdL w ds r := by rw [WdL]
theorem Dp_fl {a0 a : AV} : Dp s h (.fl a0) a ↔ a = a0 ∧ flatA a0 = true := by rw [Dp]
theorem Dp_sl {nl : Bool} {n e : Nat} {cs : List DV} {a : AV} : Dp s h (.sl nl n e cs) a ↔ (n = 0 ∧ cs = [] ∧ (∃ o e' c, a = .slice o 0 e' c ∧ (o = none → c = some 0)) ∧ (s = true → nl = true ∧ a = .slice none 0 e (some 0))) ∨
      ((s = true → nl = false ∧ 0 < n) ∧ ∃ id off cap row as, a = .slice (some (id, off)) n e cap ∧ id < h.next ∧ rowO h.objs id = some row ∧ off + n * e ≤ row.length ∧ as = (row.drop off).take (n * e) ∧ DpL s h cs as) := by rw [Dp]
theorem Dp_ag {cs : List DV} {a : AV} : Dp s h (.ag cs) a ↔ ∃ as, a = .agg as ∧ DpL s h cs as := by rw [Dp]
theorem DpL_nil {as : List AV} : DpL s h [] as ↔ as = [] := by rw [DpL]
theorem DpL_cons {d : DV} {ds : List DV} {as : List AV} : DpL s h (d :: ds) as ↔ ∃ a r, as = a :: r ∧ Dp s h d a ∧ DpL s h ds r := by rw [DpL]
end

theorem rowAt_eq (h : H) (id : Nat) : rowAt h id = rowO h.objs id := by
  unfold rowAt rowO
  cases h.objs.get id with
  | none => rfl
  | some o => cases o <;> rfl

theorem flat_any {a : AV} (hf : flatA a = true) {σ : Sg} {v : Value} (hV : V σ a v) : ∀ τ : Sg, V τ a v := by
  intro τ
  cases hV <;> first | (simp [flatA] at hf; done) | constructor
  assumption

theorem WdL.length {w : World} : ∀ {ds : List DV} {us : List Value}, WdL w ds us → us.length = ds.length
  | [], us, h => by simp only [WdL] at h; subst h; rfl
  | d :: ds, us, h => by
    simp only [WdL] at h
    obtain ⟨u, r, rfl, _, h2⟩ := h
    simp [WdL.length h2]

theorem DpL.length {s : Bool} {h : H} : ∀ {ds : List DV} {us : List AV}, DpL s h ds us → us.length = ds.length
  | [], us, h => by simp only [DpL] at h; subst h; rfl
  | d :: ds, us, h => by
    simp only [DpL] at h
    obtain ⟨u, r, rfl, _, h2⟩ := h
    simp [DpL.length h2]

/-! ### What is below the heap's end stays -/

mutual
theorem Dp.over {s : Bool} {h h' : H} (ho : Over h.next h h') : ∀ {d : DV} {a : AV}, Dp s h d a → Dp s h' d a
  | .fl a0, a, hd => by rw [Dp_fl] at hd ⊢; exact hd
  | .sl nl n e cs, a, hd => by
    rw [Dp_sl] at hd ⊢
    rcases hd with hd | ⟨hs, id, off, cap, row, as, e1, h1, h2, h3, h4, h5⟩
    · exact .inl hd
    · exact .inr ⟨hs, id, off, cap, row, as, e1, Nat.lt_of_lt_of_le h1 ho.next, by unfold rowO; rw [ho.objs id h1]; exact h2, h3, h4, DpL.over ho h5⟩
  | .ag cs, a, hd => by
    rw [Dp_ag] at hd ⊢
    obtain ⟨as, e1, h1⟩ := hd
    exact ⟨as, e1, DpL.over ho h1⟩
theorem DpL.over {s : Bool} {h h' : H} (ho : Over h.next h h') : ∀ {ds : List DV} {as : List AV}, DpL s h ds as → DpL s h' ds as
  | [], as, hd => by rw [DpL_nil] at hd ⊢; exact hd
  | d :: ds, as, hd => by
    rw [DpL_cons] at hd ⊢
    obtain ⟨a, r, e1, h1, h2⟩ := hd
    exact ⟨a, r, e1, Dp.over ho h1, DpL.over ho h2⟩
end

mutual
theorem Dp.loose {s : Bool} {h : H} : ∀ {d : DV} {a : AV}, Dp s h d a → Dp false h d a
  | .fl a0, a, hd => by rw [Dp_fl] at hd ⊢; exact hd
  | .sl nl n e cs, a, hd => by
    rw [Dp_sl] at hd ⊢
    rcases hd with ⟨h1, h2, h3, _⟩ | ⟨hs, id, off, cap, row, as, e1, h1, h2, h3, h4, h5⟩
    · exact .inl ⟨h1, h2, h3, fun h => by cases h⟩
    · exact .inr ⟨fun h => (by cases h), id, off, cap, row, as, e1, h1, h2, h3, h4, DpL.loose h5⟩
  | .ag cs, a, hd => by
    rw [Dp_ag] at hd ⊢
    obtain ⟨as, e1, h1⟩ := hd
    exact ⟨as, e1, DpL.loose h1⟩
theorem DpL.loose {s : Bool} {h : H} : ∀ {ds : List DV} {as : List AV}, DpL s h ds as → DpL false h ds as
  | [], as, hd => by rw [DpL_nil] at hd ⊢; exact hd
  | d :: ds, as, hd => by
    rw [DpL_cons] at hd ⊢
    obtain ⟨a, r, e1, h1, h2⟩ := hd
    exact ⟨a, r, e1, Dp.loose h1, DpL.loose h2⟩
end

/-! ### From the abstract heap to memory -/

theorem VL_take {σ : Sg} {row : List AV} {off m : Nat} {arr : Array Value} {d0 : Nat} (hV : ∀ (i : Nat) (a : AV), row[i]? = some a → ∃ v, arr[d0 + i]? = some v ∧ V σ a v) (hl : off + m ≤ row.length) :
    ∃ us : List Value, us.length = m ∧ (∀ (i : Nat) u, us[i]? = some u → arr[d0 + off + i]? = some u) ∧ VL σ ((row.drop off).take m) us := by
  induction m with
  | zero => exact ⟨[], rfl, fun i u h => by simp at h, by rw [List.take_zero]; exact .nil⟩
  | succ m ih =>
    obtain ⟨us, h1, h2, h3⟩ := ih (by omega)
    have hx : row[off + m]? = some row[off + m] := List.getElem?_eq_getElem (by omega)
    obtain ⟨v, g1, g2⟩ := hV _ _ hx
    refine ⟨us ++ [v], by simp [h1], ?_, ?_⟩
    · intro i u hu
      rw [List.getElem?_append] at hu
      split at hu
      · exact h2 i u hu
      · rename_i hi
        have hi2 : i = m := by
          have : i - us.length < 1 := by
            apply Decidable.byContradiction; intro hn
            rw [List.getElem?_eq_none (by simp; omega)] at hu; cases hu
          omega
        subst hi2
        rw [h1, Nat.sub_self] at hu
        simp at hu; subst hu
        rw [Nat.add_assoc]; exact g1
    · have e : (row.drop off).take (m + 1) = (row.drop off).take m ++ [row[off + m]] := by
        rw [List.take_add_one, List.getElem?_drop, hx]; rfl
      rw [e]
      exact h3.append (.cons g2 .nil)

mutual
theorem Dp.wd {σ : Sg} {h : H} {w : World} (hr : HR σ h w) : ∀ {d : DV} {a : AV} {v : Value}, Dp true h d a → V σ a v → Wd w d v
  | .fl a0, a, v, hd, hV => by
    rw [Dp_fl] at hd; rw [Wd_fl]
    obtain ⟨rfl, hf⟩ := hd
    exact ⟨hf, flat_any hf hV⟩
  | .sl nl n e cs, a, v, hd, hV => by
    rw [Dp_sl] at hd; rw [Wd_sl]
    rcases hd with ⟨rfl, rfl, _, hs⟩ | ⟨hs, id, off, cap, row, as, rfl, h1, h2, h3, h4, h5⟩
    · obtain ⟨rfl, rfl⟩ := hs rfl
      cases hV
      exact .inl ⟨rfl, rfl, rfl, rfl⟩
    · obtain ⟨rfl, hn⟩ := hs rfl
      cases hV with
      | @slice _ _ _ _ _ av p c hp hl hrr hcc ha =>
        have ha : av = ⟨p.b, p.d + off, none⟩ := ha.resolve_right (by omega)
        subst ha
        have hor : ∃ arr ty f, w.heap[p.b]? = some (.cells arr ty f) ∧ p.d + p.r ≤ arr.size ∧ ∀ (i : Nat) (a : AV), row[i]? = some a → ∃ v, arr[p.d + i]? = some v ∧ V σ a v := by
          unfold rowO at h2
          cases ho : h.objs.get id with
          | none => rw [ho] at h2; cases h2
          | some o =>
            rw [ho] at h2
            obtain ⟨q, hq, hor⟩ := hr.obj id o ho
            rw [hp] at hq; cases hq
            cases o with
            | cells cs' fam => cases h2; obtain ⟨c', e', g1, g2, _, g4⟩ := hor; exact ⟨c', e', _, g1, g2, g4⟩
            | ro cs' => cases h2; obtain ⟨c', e', f', g1, g2, _, g4⟩ := hor; exact ⟨c', e', f', g1, g2, g4⟩
            | _ => cases h2
        obtain ⟨arr, ty, f, g1, g2, g3⟩ := hor
        obtain ⟨us, u1, u2, u3⟩ := VL_take g3 h3
        refine .inr ⟨rfl, _, c, rfl, hl, .inr ⟨hn, rfl, arr, ty, f, us, g1, by show p.d + off + c * e ≤ arr.size; omega, u1, u2, ?_⟩⟩
        rw [← h4] at u3
        exact DpL.wd hr h5 u3
  | .ag cs, a, v, hd, hV => by
    rw [Dp_ag] at hd; rw [Wd_ag]
    obtain ⟨as, rfl, h1⟩ := hd
    obtain ⟨vs, rfl, h2⟩ := hV.of_agg
    exact ⟨vs, rfl, DpL.wd hr h1 h2⟩
theorem DpL.wd {σ : Sg} {h : H} {w : World} (hr : HR σ h w) : ∀ {ds : List DV} {as : List AV} {us : List Value}, DpL true h ds as → VL σ as us → WdL w ds us
  | [], as, us, hd, hV => by
    rw [DpL_nil] at hd; rw [WdL_nil]
    subst hd
    exact hV.inv_nil
  | d :: ds, as, us, hd, hV => by
    rw [DpL_cons] at hd; rw [WdL_cons]
    obtain ⟨a, r, rfl, h1, h2⟩ := hd
    obtain ⟨u, us', rfl, k1, k2⟩ := hV.inv_cons
    exact ⟨u, us', rfl, Dp.wd hr h1 k1, DpL.wd hr h2 k2⟩
end

/-! ### Laid anew -/

/-- A row that lies in memory. -/
def RowIn (σ : Sg) (w : World) (p : Plc) (row : List AV) : Prop := ∃ c e f, w.heap[p.b]? = some (.cells c e f) ∧ p.d + p.r ≤ c.size ∧ row.length ≤ p.r ∧ ∀ (i : Nat) (a : AV), row[i]? = some a → ∃ v, c[p.d + i]? = some v ∧ V σ a v

theorem app_at {α : Type} {a b : List α} {i : Nat} {x : α} (h : (a ++ b)[i]? = some x) : (i < a.length ∧ a[i]? = some x) ∨ (a.length ≤ i ∧ b[i - a.length]? = some x) := by
  rw [List.getElem?_append] at h
  split at h
  · rename_i hi; exact .inl ⟨hi, h⟩
  · rename_i hi; exact .inr ⟨by omega, h⟩

mutual
theorem Wd.canon {w : World} : ∀ {d : DV} {v : Value}, Wd w d v → ∀ k, ∃ ps : List Plc, ps.length = (canon d k).2.length ∧ ∀ σ : Sg, (∀ (i : Nat) p, ps[i]? = some p → σ (k + i) = some p) →
    V σ (Ev.canon d k).1 v ∧ ∀ (i : Nat) p row, ps[i]? = some p → (Ev.canon d k).2[i]? = some (some row) → RowIn σ w p row
  | .fl a, v, hd, k => by
    rw [Wd_fl] at hd
    simp only [Ev.canon]
    exact ⟨[], rfl, fun σ _ => ⟨hd.2 σ, fun i p row h _ => by simp at h⟩⟩
  | .sl nl n e cs, v, hd, k => by
    rw [Wd_sl] at hd
    rcases hd with ⟨rfl, rfl, rfl, rfl⟩ | ⟨rfl, a, c, rfl, hl, ⟨rfl, rfl, hsp⟩ | ⟨hn, hsp, arr, ty, f, us, g1, g2, g3, g4, g5⟩⟩
    · simp only [Ev.canon]
      exact ⟨[], rfl, fun σ _ => ⟨.sliceN rfl, fun i p row h _ => by simp at h⟩⟩
    · simp only [Ev.canon, canonL]
      refine ⟨[⟨a.block, a.off, c * e⟩], rfl, fun σ hσ => ⟨?_, fun i p row h1 h2 => ?_⟩⟩
      · have h0 := hσ 0 _ rfl
        rw [Nat.add_zero] at h0
        refine .slice h0 hl (by show 0 + c * e ≤ c * e; omega) (by simp) ?_
        rcases hsp with hsp | hsp
        · left; cases a; simp only at hsp ⊢; subst hsp; rfl
        · exact .inr hsp
      · cases i with
        | zero => simp at h2
        | succ i => simp at h1
    · obtain ⟨ps, hps, hσs⟩ := WdL.canon g5 (k + 1)
      obtain ⟨m, rfl⟩ : ∃ m, n = m + 1 := ⟨n - 1, by omega⟩
      simp only [Ev.canon]
      refine ⟨⟨a.block, a.off, c * e⟩ :: ps, by simp [hps], fun σ hσ => ?_⟩
      have h0 := hσ 0 _ rfl
      rw [Nat.add_zero] at h0
      obtain ⟨k1, k2⟩ := hσs σ fun i p hp => by
        have := hσ (i + 1) p (by simpa using hp)
        rw [show k + 1 + i = k + (i + 1) by omega]; exact this
      refine ⟨.slice h0 hl (by show 0 + c * e ≤ c * e; omega) (by simp) (.inl (by cases a; simp only at hsp ⊢; subst hsp; rfl)), fun i p row h1 h2 => ?_⟩
      cases i with
      | zero =>
        simp only [List.getElem?_cons_zero, Option.some.injEq] at h1 h2
        subst h1; subst h2
        have hlen := k1.1
        refine ⟨arr, ty, f, g1, by simpa using g2, ?_, fun i x hx => ?_⟩
        · rw [hlen, g3]; exact Nat.mul_le_mul_right e hl
        · obtain ⟨u, hu, hV⟩ := k1.get hx
          exact ⟨u, g4 i u hu, hV⟩
      | succ i =>
        simp only [List.getElem?_cons_succ] at h1 h2
        exact k2 i p row h1 h2
  | .ag cs, v, hd, k => by
    rw [Wd_ag] at hd
    obtain ⟨vs, rfl, h1⟩ := hd
    obtain ⟨ps, hps, hσs⟩ := WdL.canon h1 k
    simp only [Ev.canon]
    refine ⟨ps, hps, fun σ hσ => ?_⟩
    obtain ⟨k1, k2⟩ := hσs σ hσ
    exact ⟨.agg (by simpa using k1.1) (fun i x y hx hy => k1.2 i x y hx (by simpa using hy)), k2⟩
theorem WdL.canon {w : World} : ∀ {ds : List DV} {us : List Value}, WdL w ds us → ∀ k, ∃ ps : List Plc, ps.length = (canonL ds k).2.length ∧ ∀ σ : Sg, (∀ (i : Nat) p, ps[i]? = some p → σ (k + i) = some p) →
    VL σ (canonL ds k).1 us ∧ ∀ (i : Nat) p row, ps[i]? = some p → (canonL ds k).2[i]? = some (some row) → RowIn σ w p row
  | [], us, hd, k => by
    rw [WdL_nil] at hd
    subst hd
    simp only [canonL]
    exact ⟨[], rfl, fun σ _ => ⟨.nil, fun i p row h _ => by simp at h⟩⟩
  | d :: ds, us, hd, k => by
    rw [WdL_cons] at hd
    obtain ⟨u, r, rfl, h1, h2⟩ := hd
    obtain ⟨ps, hps, hσ1⟩ := Wd.canon h1 k
    obtain ⟨qs, hqs, hσ2⟩ := WdL.canon h2 (k + (Ev.canon d k).2.length)
    simp only [canonL]
    refine ⟨ps ++ qs, by simp [hps, hqs], fun σ hσ => ?_⟩
    obtain ⟨a1, a2⟩ := hσ1 σ fun i p hp => hσ i p (by
      have hi : i < ps.length := (List.getElem?_eq_some_iff.1 hp).1
      rw [List.getElem?_append_left hi]; exact hp)
    obtain ⟨b1, b2⟩ := hσ2 σ fun i p hp => by
      have := hσ (ps.length + i) p (by rw [List.getElem?_append_right (by omega), Nat.add_sub_cancel_left]; exact hp)
      rw [← hps, Nat.add_assoc]; exact this
    refine ⟨.cons a1 b1, fun i p row g1 g2 => ?_⟩
    rcases app_at g1 with ⟨i1, e1⟩ | ⟨i1, e1⟩ <;> rcases app_at g2 with ⟨i2, e2⟩ | ⟨i2, e2⟩
    · exact a2 i p row e1 e2
    · omega
    · omega
    · rw [hps] at e1; exact b2 _ p row e1 e2
end

/-- The heap of rows that are only read. -/
def hpR (rows : List (Option (List AV))) : H := hpL (rows.map fun r => (⟨0, 0, 0⟩, r))

theorem putL_congr : ∀ (l l' : ArgL) (i : Nat) (t : Tr AO), l.map (·.2) = l'.map (·.2) → putL l i t = putL l' i t
  | [], [], _, _, _ => rfl
  | [], _ :: _, _, _, h => by simp at h
  | _ :: _, [], _, _, h => by simp at h
  | (p, oc) :: l, (p', oc') :: l', i, t, h => by
    simp only [List.map_cons, List.cons.injEq] at h
    obtain ⟨e, h⟩ := h
    subst e
    unfold putL
    exact putL_congr l l' (i + 1) _ h

theorem hpL_rows (l : ArgL) : hpL l = hpR (l.map (·.2)) := by
  unfold hpR hpL
  have e1 : putL l 0 .nil = putL ((l.map (·.2)).map fun r => ((⟨0, 0, 0⟩ : Plc), r)) 0 .nil := putL_congr _ _ _ _ (by
    rw [List.map_map, List.map_map]; rfl)
  rw [← e1, List.length_map, List.length_map]

theorem hpR_get (rows : List (Option (List AV))) (j : Nat) : (hpR rows).objs.get j = ((rows[j]?).bind fun r => r).map .ro := by
  unfold hpR
  rw [hpL_get, List.getElem?_map]
  cases rows[j]? <;> rfl

theorem hpR_HR {w : World} {rows : List (Option (List AV))} {ps : List Plc} (hl : ps.length = rows.length) (hin : ∀ (i : Nat) p row, ps[i]? = some p → rows[i]? = some (some row) → RowIn (fun i => ps[i]?) w p row) : HR (fun i => ps[i]?) (hpR rows) w := by
  refine ⟨?_, ?_, ?_, ?_, Nat.zero_le _⟩
  · intro id o ho
    rw [hpR_get] at ho
    obtain ⟨cs, h1, rfl⟩ := map_some' ho
    cases hx : rows[id]? with
    | none => rw [hx] at h1; cases h1
    | some r =>
      rw [hx] at h1
      have h1 : r = some cs := h1
      subst h1
      have hid : id < rows.length := (List.getElem?_eq_some_iff.1 hx).1
      have hp : ps[id]? = some ps[id] := List.getElem?_eq_getElem (by omega)
      exact ⟨ps[id], hp, hin id _ cs hp hx⟩
  · intro id hid
    have hid : (rows.map fun r => ((⟨0, 0, 0⟩ : Plc), r)).length ≤ id := hid
    rw [List.length_map] at hid
    exact List.getElem?_eq_none (by omega)
  · intro i j o o' p q hij hi hj _ _ _
    rw [hpR_get] at hi hj
    obtain ⟨cs, _, rfl⟩ := map_some' hi
    obtain ⟨cs', _, rfl⟩ := map_some' hj
    exact .inr ⟨cs, cs', rfl, rfl⟩
  · intro i cs f hi
    rw [hpR_get] at hi
    obtain ⟨cs', _, e⟩ := map_some' hi
    cases e

theorem ext_belowR {rows : List (Option (List AV))} {σ σ' : Sg} {h' : H} {w w' : World} (hE : Ext σ σ' (hpR rows) h' w w') : Below w.heap.size w w' :=
  ⟨hE.os, hE.tape, hE.output, hE.size, fun k hk => hE.frame k hk fun id o p ho hw => by
    rw [hpR_get] at ho
    obtain ⟨cs, _, rfl⟩ := map_some' ho
    exact absurd rfl (hw cs)⟩

/-- The arguments, laid anew, in memory. -/
theorem WdL.lay {w : World} {ds : List DV} {us : List Value} (h : WdL w ds us) : ∃ σ : Sg, VL σ (canonL ds 0).1 us ∧ HR σ (hpR (canonL ds 0).2) w := by
  obtain ⟨ps, hps, hσ⟩ := WdL.canon h 0
  obtain ⟨k1, k2⟩ := hσ (fun i => ps[i]?) (fun i p hp => by rw [Nat.zero_add]; exact hp)
  exact ⟨_, k1, hpR_HR hps k2⟩

/-! ### What is laid anew reads as it did -/

def Sub (rows : List (Option (List AV))) (k : Nat) (l : List (Option (List AV))) : Prop := ∀ (i : Nat) r, l[i]? = some r → rows[k + i]? = some r

mutual
theorem Wd.dp {w : World} {rows : List (Option (List AV))} : ∀ {d : DV} {v : Value}, Wd w d v → ∀ k, Sub rows k (Ev.canon d k).2 → Dp false (hpR rows) d (Ev.canon d k).1
  | .fl a, v, hd, k, hs => by
    rw [Wd_fl] at hd
    simp only [Ev.canon, Dp]
    exact ⟨trivial, hd.1⟩
  | .sl nl n e cs, v, hd, k, hs => by
    rw [Wd_sl] at hd
    rcases hd with ⟨rfl, rfl, rfl, rfl⟩ | ⟨rfl, a, c, rfl, hl, ⟨rfl, rfl, hsp⟩ | ⟨hn, hsp, arr, ty, f, us, g1, g2, g3, g4, g5⟩⟩
    · simp only [Ev.canon]
      rw [Dp_sl]
      exact .inl ⟨rfl, rfl, ⟨_, _, _, rfl, by simp⟩, fun h => by cases h⟩
    · simp only [Ev.canon]
      rw [Dp_sl]
      exact .inl ⟨rfl, rfl, ⟨_, _, _, rfl, by simp⟩, fun h => by cases h⟩
    · obtain ⟨m, rfl⟩ : ∃ m, n = m + 1 := ⟨n - 1, by omega⟩
      simp only [Ev.canon] at hs ⊢
      have hlen : (canonL cs (k + 1)).1.length = (m + 1) * e := by
        obtain ⟨ps, hps, hσ⟩ := WdL.canon g5 (k + 1)
        have := (hσ (fun i => ps[i - (k + 1)]?) (fun i p hp => by rw [Nat.add_sub_cancel_left]; exact hp)).1.1
        rw [this, g3]
      have h0 := hs 0 _ rfl
      rw [Nat.add_zero] at h0
      have hk : k < rows.length := (List.getElem?_eq_some_iff.1 h0).1
      have ih := WdL.dp (rows := rows) g5 (k + 1) (fun i r hr => by
        have := hs (i + 1) r (by simpa using hr)
        rw [show k + 1 + i = k + (i + 1) by omega]; exact this)
      rw [Dp_sl]
      refine .inr ⟨fun h => (by cases h), k, 0, none, (canonL cs (k + 1)).1, (canonL cs (k + 1)).1, rfl, ?_, ?_, ?_, ?_, ih⟩
      · show k < (rows.map _).length
        rw [List.length_map]; exact hk
      · unfold rowO
        rw [hpR_get, h0]; rfl
      · rw [hlen]; omega
      · rw [List.drop_zero, List.take_of_length_le (by omega)]
  | .ag cs, v, hd, k, hs => by
    rw [Wd_ag] at hd
    obtain ⟨vs, rfl, h1⟩ := hd
    simp only [Ev.canon] at hs ⊢
    simp only [Dp]
    exact ⟨_, rfl, WdL.dp h1 k hs⟩
theorem WdL.dp {w : World} {rows : List (Option (List AV))} : ∀ {ds : List DV} {us : List Value}, WdL w ds us → ∀ k, Sub rows k (canonL ds k).2 → DpL false (hpR rows) ds (canonL ds k).1
  | [], us, hd, k, hs => by
    simp only [canonL, DpL]
  | d :: ds, us, hd, k, hs => by
    rw [WdL_cons] at hd
    obtain ⟨u, r, rfl, h1, h2⟩ := hd
    simp only [canonL] at hs ⊢
    simp only [DpL]
    refine ⟨_, _, rfl, Wd.dp h1 k (fun i x hx => hs i x ?_), WdL.dp h2 _ (fun i x hx => ?_)⟩
    · have hi : i < (Ev.canon d k).2.length := (List.getElem?_eq_some_iff.1 hx).1
      rw [List.getElem?_append_left hi]; exact hx
    · have := hs ((Ev.canon d k).2.length + i) x (by rw [List.getElem?_append_right (by omega), Nat.add_sub_cancel_left]; exact hx)
      rw [Nat.add_assoc]; exact this
end

/-! ### A law of deep arguments -/

theorem law_deep {P : Program} (hng : NoGo P) {f : FuncId} {fn : Func} (hf : P.funcs[f]? = some fn) (hb : fn.body.isSome = true) {w : World} {ds : List DV} {args' : Array Value} (hw : WdL w ds args'.toList)
    (hc : ∀ (h : H) (as : List AV), DpL false h ds as → ACalls P (.func f) as h (fun a h' => a = .bool true ∧ h' = h)) : Calls P f args' w fun e w' => e = .returned (.bool true) ∧ Below w.heap.size w w' := by
  obtain ⟨σ, k1, k2⟩ := hw.lay
  have hd := WdL.dp (rows := (canonL ds 0).2) hw 0 (fun i r hr => by rw [Nat.zero_add]; exact hr)
  have hfine := hc _ _ hd σ w args' k1 k2
  rw [callFunc_enter hng hf hb] at hfine
  refine Calls.mono hfine fun e w' ⟨x, he, a, h', ⟨ha, hh⟩, σ', hV, hr', hE⟩ => ?_
  subst ha; subst hh
  cases hV
  exact ⟨he, ext_belowR hE⟩

/-! ### A call with deep arguments, run where they are laid anew -/

theorem ACalls.deep {P : Program} {g : FuncId} {ds : List DV} {res : AV} (hp : plainA 4 res = true) (hc : ACalls P (.func g) (canonL ds 0).1 (hpR (canonL ds 0).2) (fun a _ => a = res)) {h : H} {as : List AV} (hd : DpL true h ds as) :
    ACalls P (.func g) as h (fun a h' => a = res ∧ h' = h) := by
  intro σ w args' hv hr
  obtain ⟨σ0, k1, k2⟩ := (DpL.wd hr hd hv).lay
  refine (hc σ0 w args' k1 k2).mono fun v w' ⟨a, h', ha, σ', hV, hr', hE⟩ => ?_
  subst ha
  have hk := below_keep hr (ext_belowR hE)
  exact ⟨a, h, ⟨rfl, rfl⟩, σ, plain_V 4 a hp σ' σ v hV, hk.1, hk.2⟩

/-! ### Reading -/

theorem mapM_cons_some {α β : Type} {f : α → Option β} {a : α} {l : List α} {r : List β} (h : (a :: l).mapM f = some r) : ∃ b bs, r = b :: bs ∧ f a = some b ∧ l.mapM f = some bs := by
  rw [List.mapM_cons] at h
  simp only [Option.bind_eq_bind, Option.pure_def] at h
  cases hb : f a with
  | none => rw [hb] at h; cases h
  | some b =>
    rw [hb] at h
    simp only [Option.bind_some] at h
    cases hl : l.mapM f with
    | none => rw [hl] at h; cases h
    | some bs =>
      rw [hl] at h
      simp only [Option.bind_some, Option.some.injEq] at h
      exact ⟨b, bs, h.symm, rfl, rfl⟩

theorem readD_ok {h : H} : ∀ (k : Nat) {a : AV} {d : DV}, readD h k a = some d → Dp true h d a
  | 0, a, d, hd => by simp [readD] at hd
  | k + 1, a, d, hd => by
    have hl : ∀ {as : List AV} {ds : List DV}, as.mapM (readD h k) = some ds → DpL true h ds as := by
      intro as
      induction as with
      | nil => intro ds hm; simp at hm; subst hm; simp only [DpL]
      | cons a as ih =>
        intro ds hm
        obtain ⟨b, bs, rfl, h1, h2⟩ := mapM_cons_some hm
        simp only [DpL]
        exact ⟨a, as, rfl, readD_ok k h1, ih h2⟩
    unfold readD at hd
    split at hd
    · cases hd
      rw [Dp_sl]
      exact .inl ⟨rfl, rfl, ⟨_, _, _, rfl, fun _ => rfl⟩, fun _ => ⟨rfl, rfl⟩⟩
    · rename_i id off n e cap
      cases hz : (Nat.beq n 0 || Nat.ble h.next id)
      · rw [hz, cond_ff] at hd
        rw [Bool.or_eq_false_iff] at hz
        obtain ⟨z1, z2⟩ := hz
        cases hrow : rowAt h id with
        | none => rw [hrow] at hd; cases hd
        | some row =>
          rw [hrow] at hd
          simp only [Option.bind_some] at hd
          obtain ⟨hle, hd⟩ := cond_some hd
          obtain ⟨cs, hm, rfl⟩ := map_some' hd
          have hn : 0 < n := by
            rcases Nat.eq_zero_or_pos n with h0 | h0
            · subst h0; cases z1
            · exact h0
          have hid : id < h.next := by
            apply Decidable.byContradiction; intro hn
            rw [Nble (show h.next ≤ id by omega)] at z2; cases z2
          rw [Dp_sl]
          exact .inr ⟨fun _ => ⟨rfl, hn⟩, id, off, cap, row, _, rfl, hid, by rw [← rowAt_eq]; exact hrow, bleN hle, rfl, hl hm⟩
      · rw [hz, cond_tt] at hd; cases hd
    · rename_i as
      obtain ⟨cs, hm, rfl⟩ := map_some' hd
      simp only [Dp]
      exact ⟨as, rfl, hl hm⟩
    · obtain ⟨hf, hd⟩ := cond_some hd
      cases hd
      simp only [Dp]
      exact ⟨trivial, hf⟩

theorem readDL_ok {h : H} {k : Nat} {as : List AV} {ds : List DV} (hm : as.mapM (readD h k) = some ds) : DpL true h ds as := by
  induction as generalizing ds with
  | nil => simp at hm; subst hm; simp only [DpL]
  | cons a as ih =>
    obtain ⟨b, bs, rfl, h1, h2⟩ := mapM_cons_some hm
    simp only [DpL]
    exact ⟨a, as, rfl, readD_ok k h1, ih h2⟩

end
end Go.Ev

/- A table of calls with deep arguments; the arguments of a law, by their types. No conditions beyond those that each theorem states. -/
namespace Go.Ev
open Go.RowKit Go.ChangeShapes Go.WideShapes Go.Deep
noncomputable section

/-! ### Equality of deep values -/

theorem eqFlat_ok {a b : AV} (h : eqFlat a b = true) : a = b := by
  cases a <;> cases b <;> first | (simp [eqFlat] at h; done) | skip
  · rename_i a b; cases a <;> cases b <;> first | rfl | (simp [eqFlat] at h; done)
  · rename_i k n k' n'
    simp only [eqFlat, Bool.and_eq_true] at h
    obtain ⟨h1, h2⟩ := h
    rw [eqI_eq, decide_eq_true_eq] at h2
    subst h2
    cases k <;> cases k' <;> first | rfl | (simp [kEq] at h1; done)
  · simp only [eqFlat] at h
    rw [eqL_eq, decide_eq_true_eq] at h
    rw [h]

mutual
theorem DV.eq_ok : ∀ {a b : DV}, DV.eq a b = true → a = b
  | .fl a, b, h => by
    cases b <;> first | (simp [DV.eq] at h; done) | skip
    simp only [DV.eq] at h
    rw [eqFlat_ok h]
  | .sl x n e cs, b, h => by
    cases b <;> first | (simp [DV.eq] at h; done) | skip
    rename_i y m g ds
    simp only [DV.eq, Bool.and_eq_true] at h
    obtain ⟨h1, h2, h3, h4⟩ := h
    have := beqN h2; subst this
    have := beqN h3; subst this
    rw [DV.eqL_ok h4]
    cases x <;> cases y <;> first | rfl | (simp at h1; done)
  | .ag cs, b, h => by
    cases b <;> first | (simp [DV.eq] at h; done) | skip
    simp only [DV.eq] at h
    rw [DV.eqL_ok h]
theorem DV.eqL_ok : ∀ {a b : List DV}, DV.eqL a b = true → a = b
  | [], b, h => by
    cases b
    · rfl
    · simp [DV.eqL] at h
  | a :: as, b, h => by
    cases b
    · simp [DV.eqL] at h
    · simp only [DV.eqL, Bool.and_eq_true] at h
      rw [DV.eq_ok h.1, DV.eqL_ok h.2]
end

theorem findT_ok : ∀ {tbl : List (List DV × AV)} {ds : List DV} {v : AV}, findT tbl ds = some v → (ds, v) ∈ tbl
  | [], ds, v, h => by simp [findT] at h
  | (es, u) :: l, ds, v, h => by
    unfold findT at h
    cases hb : DV.eqL es ds
    · rw [hb, cond_ff] at h; exact List.mem_cons_of_mem _ (findT_ok h)
    · rw [hb, cond_tt] at h
      cases h
      rw [DV.eqL_ok hb]; exact List.mem_cons_self ..

/-- A table of calls: each is run where its arguments are laid anew. -/
theorem XOne.deep {P : Program} {g : FuncId} {tbl : List (List DV × AV)} (ht : ∀ x ∈ tbl, plainA 4 x.2 = true ∧ ACalls P (.func g) (canonL x.1 0).1 (hpR (canonL x.1 0).2) (fun a _ => a = x.2)) : XOne P g (.deep tbl) := by
  intro args h a h' hx σ w args' hv hr
  have hx2 : (args.mapM (readD h 8)).bind (fun ds => (findT tbl ds).map fun v => (v, h)) = some (a, h') := by
    unfold xA at hx
    split at hx <;> first | exact hx | simp_all
  cases hm : args.mapM (readD h 8) with
  | none => rw [hm] at hx2; cases hx2
  | some ds =>
    rw [hm] at hx2
    simp only [Option.bind_some] at hx2
    obtain ⟨v, hf, he⟩ := map_some' hx2
    cases he
    obtain ⟨h1, h2⟩ := ht _ (findT_ok hf)
    refine (ACalls.deep h1 h2 (readDL_ok hm) σ w args' hv hr).mono ?_
    rintro u w' ⟨a', h'', ⟨rfl, rfl⟩, rest⟩
    exact ⟨_, _, List.mem_singleton.2 rfl, rest⟩

/-- An entry of a table, by the evaluator. -/
theorem deep_ev {P : Program} (hng : NoGo P) {ex : EX} (hex : ExOK P ex) {fuel d : Nat} {g : FuncId} {ds : List DV} {v : AV} (h : ends (evVF P ex fuel d (.func g) (canonL ds 0).1 (hpR (canonL ds 0).2)) v = true) :
    ACalls P (.func g) (canonL ds 0).1 (hpR (canonL ds 0).2) (fun a _ => a = v) := by
  rw [evVF_eq] at h
  obtain ⟨l, hl, hall⟩ := ends_spec h
  exact (ACalls.ev hng hex hl).mono fun a h' hm => hall _ hm

/-! ### Types -/

inductive Ty where
  | bool
  | int (k : IntKind)
  | str
  | sl (t : Ty)
  | st (ts : List Ty)

mutual
def Ty.size : Ty → Nat
  | .st ts => Ty.sizeL ts
  | _ => 1
def Ty.sizeL : List Ty → Nat
  | [] => 0
  | t :: ts => t.size + Ty.sizeL ts
end

mutual
/-- The cells of a value of a type. -/
def okT (B : Nat) : Ty → List DV → Prop
  | .bool, ds => ∃ b, ds = [.fl (.bool b)]
  | .int k, ds => ∃ n, ds = [.fl (.int k n)] ∧ (Lit.int k n).wf = true
  | .str, ds => ∃ s : List Nat, ds = [.fl (.str s)] ∧ (∀ x ∈ s, x < 256) ∧ s.length ≤ B
  | .sl t, ds => ∃ (nl : Bool) (rows : List (List DV)), ds = [.sl nl rows.length t.size rows.flatten] ∧ rows.length ≤ B ∧ ∀ r ∈ rows, okT B t r
  | .st ts, ds => okTs B ts ds
def okTs (B : Nat) : List Ty → List DV → Prop
  | [], ds => ds = []
  | t :: ts, ds => ∃ d1 d2, ds = d1 ++ d2 ∧ okT B t d1 ∧ okTs B ts d2
end

/-- The argument of a type. -/
def okA (B : Nat) : Ty → DV → Prop
  | .st ts, d => ∃ ds, d = .ag ds ∧ okTs B ts ds
  | t, d => okT B t [d]

/-- The fields of a struct, one behind the other. -/
def fieldsTy (P : Program) (rec : TypeId → Option Ty) : List Field → Nat → Option (List Ty)
  | [], _ => some []
  | f :: fs, off => cond (Nat.beq f.offset off) ((rec f.type).bind fun t => cond (Nat.beq (P.cellsOf f.type) t.size) ((fieldsTy P rec fs (off + t.size)).map (t :: ·)) none) none

def tyOf (P : Program) : Nat → TypeId → Option Ty
  | 0, _ => none
  | k + 1, t => match P.underlying t with
    | some .bool => some .bool
    | some (.int i) => some (.int i)
    | some .string => some .str
    | some (.slice e) => (tyOf P k e).bind fun te => cond (Nat.beq (P.cellsOf e) te.size && (Nat.ble 1 te.size && Nat.ble 1 (P.bytesOf e))) (some (.sl te)) none
    | some (.struct fs) => (fieldsTy P (tyOf P k) fs.toList 0).bind fun ts => cond (Nat.beq (P.cellsOf t) (Ty.sizeL ts)) (some (.st ts)) none
    | _ => none

theorem WdL.append {w : World} : ∀ {a b : List DV} {x y : List Value}, WdL w a x → WdL w b y → WdL w (a ++ b) (x ++ y)
  | [], b, x, y, h1, h2 => by rw [WdL_nil] at h1; subst h1; exact h2
  | d :: a, b, x, y, h1, h2 => by
    rw [WdL_cons] at h1
    obtain ⟨u, r, rfl, k1, k2⟩ := h1
    rw [List.cons_append, WdL_cons]
    exact ⟨u, r ++ y, rfl, k1, WdL.append k2 h2⟩

theorem WdL.rows {w : World} {n : Nat} {G : Nat → List DV} {F : Nat → List Value} (h : ∀ i, i < n → WdL w (G i) (F i)) : WdL w ((List.range n).map G).flatten ((List.range n).map F).flatten := by
  have key : ∀ l : List Nat, (∀ i ∈ l, i < n) → WdL w (l.map G).flatten (l.map F).flatten := by
    intro l
    induction l with
    | nil => intro _; rw [List.map_nil, List.map_nil, List.flatten_nil, List.flatten_nil, WdL_nil]
    | cons a l ih =>
      intro hl
      rw [List.map_cons, List.map_cons, List.flatten_cons, List.flatten_cons]
      exact WdL.append (h a (hl a (List.mem_cons_self ..))) (ih fun i hi => hl i (List.mem_cons_of_mem _ hi))
  exact key _ fun i hi => List.mem_range.1 hi

theorem flatV_at {α : Type} {s : Nat} : ∀ {rows : List (List α)}, (∀ r ∈ rows, r.length = s) → ∀ {j : Nat} {x : α}, rows.flatten[j]? = some x → ∃ i k r, j = i * s + k ∧ k < s ∧ rows[i]? = some r ∧ r[k]? = some x
  | [], _, j, x, h => by simp at h
  | a :: rows, hw, j, x, h => by
    have ha := hw a (List.mem_cons_self ..)
    rw [List.flatten_cons, List.getElem?_append] at h
    split at h
    · rename_i hj
      exact ⟨0, j, a, by omega, by omega, rfl, h⟩
    · obtain ⟨i, k, r, e1, e2, e3, e4⟩ := flatV_at (fun r hr => hw r (List.mem_cons_of_mem _ hr)) h
      exact ⟨i + 1, k, r, by rw [Nat.succ_mul]; omega, e2, e3, e4⟩

variable {Hh : Type} {enc : TypeId × Value → Hh} {P : Program} {w : World} {held : Bool}

variable {B : Nat}

theorem okT_len : ∀ {t : Ty} {ds : List DV}, okT B t ds → (∀ ts, t ≠ .st ts) → ds.length = 1 := by
  intro t ds h hn
  cases t with
  | bool => rw [okT] at h; obtain ⟨b, rfl⟩ := h; rfl
  | int k => rw [okT] at h; obtain ⟨n, rfl, _⟩ := h; rfl
  | str => rw [okT] at h; obtain ⟨s, rfl, _⟩ := h; rfl
  | sl t => rw [okT] at h; obtain ⟨nl, rows, rfl, _, _⟩ := h; rfl
  | st ts => exact absurd rfl (hn ts)

theorem weightsAll_mem {e : TypeId} {x : DataW Hh} {n : Nat} (hn : n ∈ x.weights P e) : ∀ {l : List (DataW Hh)}, x ∈ l → n ∈ DataW.weightsAll P e l
  | [], h => by cases h
  | d :: l, h => by
    unfold DataW.weightsAll
    rcases List.mem_cons.1 h with rfl | h
    · exact List.mem_append_left _ hn
    · exact List.mem_append_right _ (weightsAll_mem hn h)

theorem trod_fields {rec : TypeId → Option Ty} {cs : List Value} (hrec : ∀ (t : TypeId) (ty : Ty), rec t = some ty → ∀ (n : Nat) (c : List Value) (y : DataW Hh × List MemPlace), DataW.trod enc P w 0 (fun _ => true) held n t c = some y → (∀ x ∈ y.1.weights P t, x ≤ B) → ∃ ds, okT B ty ds ∧ WdL w ds c) :
    ∀ (fs : List Field) (off : Nat) (ts : List Ty), fieldsTy P rec fs off = some ts → off + Ty.sizeL ts = cs.length → (∀ f ∈ fs, ∃ n y, DataW.trod enc P w 0 (fun _ => true) held n f.type ((cs.drop f.offset).take (P.cellsOf f.type)) = some y ∧ ∀ x ∈ y.1.weights P f.type, x ≤ B) → ∃ ds, okTs B ts ds ∧ WdL w ds (cs.drop off)
  | [], off, ts, h, hl, _ => by
    simp only [fieldsTy, Option.some.injEq] at h
    subst h
    simp only [Ty.sizeL] at hl
    exact ⟨[], by rw [okTs], by rw [WdL_nil, List.drop_of_length_le (by omega)]⟩
  | f :: fs, off, ts, h, hl, hf => by
    unfold fieldsTy at h
    obtain ⟨ho, h⟩ := cond_some h
    have ho := beqN ho
    cases hr : rec f.type with
    | none => rw [hr] at h; cases h
    | some t =>
      rw [hr] at h
      simp only [Option.bind_some] at h
      obtain ⟨hc, h⟩ := cond_some h
      have hc := beqN hc
      obtain ⟨ts', h', rfl⟩ := map_some' h
      simp only [Ty.sizeL] at hl
      obtain ⟨n, y, hy, hwt⟩ := hf f (List.mem_cons_self ..)
      rw [ho, hc] at hy
      obtain ⟨d1, k1, k2⟩ := hrec _ _ hr n _ y hy hwt
      obtain ⟨d2, k3, k4⟩ := trod_fields hrec fs (off + t.size) ts' h' (by omega) (fun g hg => hf g (List.mem_cons_of_mem _ hg))
      refine ⟨d1 ++ d2, by rw [okTs]; exact ⟨d1, d2, rfl, k1, k3⟩, ?_⟩
      have e : cs.drop off = (cs.drop off).take t.size ++ cs.drop (off + t.size) := by
        rw [← List.drop_drop, List.take_append_drop]
      rw [e]
      exact k2.append k4

/-- What the kit's reading of an argument gives. -/
theorem trod_deep : ∀ (k : Nat) (t : TypeId) (ty : Ty), tyOf P k t = some ty → ∀ (n : Nat) (c : List Value) (y : DataW Hh × List MemPlace), DataW.trod enc P w 0 (fun _ => true) held n t c = some y → (∀ x ∈ y.1.weights P t, x ≤ B) → ∃ ds, okT B ty ds ∧ WdL w ds c
  | 0, t, ty, h, _, _, _, _, _ => by simp [tyOf] at h
  | k + 1, t, ty, h, n, c, y, hy, hwt => by
    unfold tyOf at h
    cases hu : P.underlying t with
    | none => rw [hu] at h; cases h
    | some u =>
      rw [hu] at h
      cases u with
      | bool =>
        cases h
        obtain ⟨b, rfl, _⟩ := DataW.trod_bool hu hy
        exact ⟨[.fl (.bool b)], by rw [okT]; exact ⟨b, rfl⟩, by rw [WdL_cons]; exact ⟨_, _, rfl, by rw [Wd_fl]; exact ⟨rfl, fun σ => .bool b⟩, by rw [WdL_nil]⟩⟩
      | int i =>
        cases h
        obtain ⟨m, rfl, _, wf⟩ := DataW.trod_int hu hy
        exact ⟨[.fl (.int i m)], by rw [okT]; exact ⟨m, rfl, wf⟩, by rw [WdL_cons]; exact ⟨_, _, rfl, by rw [Wd_fl]; exact ⟨rfl, fun σ => .int _ _⟩, by rw [WdL_nil]⟩⟩
      | string =>
        cases h
        obtain ⟨s, rfl, rfl, hs⟩ := DataW.trod_string hu hy
        have hlen : (bytesN s).length ≤ B := by
          unfold bytesN
          rw [List.length_map]
          exact hwt _ (by simp [DataW.weights])
        exact ⟨[.fl (.str (bytesN s))], by rw [okT]; exact ⟨_, rfl, bytes_lt s, hlen⟩, by rw [WdL_cons]; exact ⟨_, _, rfl, by rw [Wd_fl]; exact ⟨rfl, fun σ => .str rfl⟩, by rw [WdL_nil]⟩⟩
      | slice e =>
        simp only at h
        cases he : tyOf P k e with
        | none => rw [he] at h; cases h
        | some te =>
          rw [he] at h
          simp only [Option.bind_some] at h
          obtain ⟨hb, h⟩ := cond_some h
          cases h
          rw [Bool.and_eq_true] at hb
          have hs : P.cellsOf e = te.size := beqN hb.1
          obtain ⟨hb1, hb2⟩ := hb
          rw [Bool.and_eq_true] at hb2
          have hs0 : 0 < te.size := bleN hb2.1
          have hby : 1 ≤ P.bytesOf e := bleN hb2.2
          rcases open_slice hu hy with ⟨rfl, _⟩ | ⟨a, len, cap, m, n', D, Pl, rfl, _, hl, _, hm, hyx, hx⟩
          · exact ⟨[.sl true 0 te.size []], by rw [okT]; exact ⟨true, [], rfl, Nat.zero_le _, fun r hr => (List.not_mem_nil hr).elim⟩, by rw [WdL_cons]; exact ⟨_, _, rfl, by rw [Wd_sl]; exact .inl ⟨rfl, rfl, rfl, rfl⟩, by rw [WdL_nil]⟩⟩
          · simp only [if_true] at hm
            subst hm
            rw [hs] at hx
            rcases Nat.eq_zero_or_pos m with hm0 | hm0
            · subst hm0
              have : len = 0 := by omega
              subst this
              exact ⟨[.sl false 0 te.size []], by rw [okT]; exact ⟨false, [], rfl, Nat.zero_le _, fun r hr => (List.not_mem_nil hr).elim⟩,
                by rw [WdL_cons]; exact ⟨_, _, rfl, by rw [Wd_sl]; exact .inr ⟨rfl, a, 0, rfl, Nat.le_refl _, .inl ⟨rfl, rfl, .inr rfl⟩⟩, by rw [WdL_nil]⟩⟩
            · have hspot : a.spot = none := by
                obtain ⟨cs', h1, _⟩ := hx 0 hm0
                obtain ⟨_, h2, h3⟩ := World.cells?_some h1
                have h4 := h3 0 (by omega)
                have h5 : 0 < cs'.length := by omega
                rw [List.getElem?_eq_getElem h5] at h4
                have := World.cell?_spot h4
                simpa [Addr.add] using this
              obtain ⟨b, o, sp⟩ := a
              simp only at hspot
              subst hspot
              have hcell : ∀ i, i < m → ∃ cs', cs'.length = te.size ∧ (∀ k, k < te.size → w.cell? ⟨b, o + (i * te.size + k), none⟩ = cs'[k]?) ∧ DataW.trod enc P w 0 (fun _ => true) held n' e cs' = some (D i, Pl i) := by
                intro i hi
                obtain ⟨cs', h1, h2⟩ := hx i hi
                obtain ⟨_, h3, h4⟩ := World.cells?_some h1
                refine ⟨cs', h3, fun k hk => ?_, h2⟩
                have := h4 k (by omega)
                rw [add_addr, add_addr] at this
                rw [← this]; congr 2; omega
              obtain ⟨cs0, hc1, hc2, _⟩ := hcell 0 hm0
              have h00 := hc2 0 hs0
              rw [List.getElem?_eq_getElem (by omega)] at h00
              obtain ⟨arr, e', f, hb', _⟩ := cell_open h00
              have hgc : ∀ k v, w.cell? ⟨b, k, none⟩ = some v → arr[k]? = some v := by
                intro k v hk
                obtain ⟨c', e'', f', hb'', hv'⟩ := cell_open hk
                rw [hb'] at hb''; cases hb''; exact hv'
              have hsz : o + m * te.size ≤ arr.size := by
                obtain ⟨cs1, g1, g2, _⟩ := hcell (m - 1) (by omega)
                have h01 := g2 (te.size - 1) (by omega)
                rw [List.getElem?_eq_getElem (by omega)] at h01
                have := hgc _ _ h01
                have hlt : o + ((m - 1) * te.size + (te.size - 1)) < arr.size := by
                  apply Decidable.byContradiction; intro hn
                  rw [Array.getElem?_eq_none (by omega)] at this; cases this
                have hmul : m * te.size = (m - 1) * te.size + te.size := by
                  have h9 := Nat.add_mul (m - 1) 1 te.size
                  rw [Nat.sub_add_cancel hm0, Nat.one_mul] at h9
                  exact h9
                omega
              have hD : ∀ i, i < m → ∀ x ∈ (D i).weights P e, x ≤ B := by
                intro i hi x hxw
                refine hwt x ?_
                rw [hyx]
                show x ∈ DataW.weights P t _
                rw [DataW.weights, hu]
                simp only
                refine List.mem_cons_of_mem _ ?_
                by_cases hil : i < len
                · exact List.mem_append_left _ (weightsAll_mem hxw (List.mem_map.2 ⟨i, List.mem_range.2 hil, rfl⟩))
                · exact List.mem_append_right _ (weightsAll_mem hxw (List.mem_map.2 ⟨i - len, List.mem_range.2 (by omega), by rw [show len + (i - len) = i by omega]⟩))
              have hlenB : len ≤ B := by
                have := hwt ((len + (m - len)) * P.bytesOf e) (by
                  rw [hyx]
                  show _ ∈ DataW.weights P t _
                  rw [DataW.weights, hu]
                  simp)
                have h2 : len + (m - len) ≤ (len + (m - len)) * P.bytesOf e := Nat.le_mul_of_pos_right _ hby
                omega
              obtain ⟨F, hF⟩ := choose_lt (α := List Value × List DV) (n := len) (p := fun i x => x.1.length = te.size ∧ (∀ k, k < te.size → w.cell? ⟨b, o + (i * te.size + k), none⟩ = x.1[k]?) ∧ okT B te x.2 ∧ WdL w x.2 x.1) (fun i hi => by
                obtain ⟨cs', g1, g2, g3⟩ := hcell i (by omega)
                obtain ⟨ds, k1, k2⟩ := trod_deep k e te he n' cs' _ g3 (hD i (by omega))
                exact ⟨(cs', ds), g1, g2, k1, k2⟩)
              have hw1 : ∀ r ∈ (List.range len).map fun i => (F i).1, r.length = te.size := by
                intro r hr
                obtain ⟨i, hi, rfl⟩ := List.mem_map.1 hr
                exact (hF i (List.mem_range.1 hi)).1
              refine ⟨[.sl false len te.size ((List.range len).map fun i => (F i).2).flatten], ?_, ?_⟩
              · rw [okT]
                refine ⟨false, (List.range len).map fun i => (F i).2, by rw [List.length_map, List.length_range], by rw [List.length_map, List.length_range]; exact hlenB, fun r hr => ?_⟩
                obtain ⟨i, hi, rfl⟩ := List.mem_map.1 hr
                exact (hF i (List.mem_range.1 hi)).2.2.1
              · rw [WdL_cons]
                refine ⟨_, _, rfl, ?_, by rw [WdL_nil]⟩
                rw [Wd_sl]
                refine .inr ⟨rfl, _, m, rfl, hl, ?_⟩
                rcases Nat.eq_zero_or_pos len with hl0 | hl0
                · subst hl0
                  exact .inl ⟨rfl, rfl, .inl rfl⟩
                · refine .inr ⟨hl0, rfl, arr, e', f, ((List.range len).map fun i => (F i).1).flatten, hb', hsz, ?_, ?_, WdL.rows fun i hi => (hF i hi).2.2.2⟩
                  · have : ∀ l : List Nat, (∀ i ∈ l, i < len) → (l.map fun i => (F i).1).flatten.length = l.length * te.size := by
                      intro l
                      induction l with
                      | nil => intro _; simp
                      | cons a l ih =>
                        intro hl
                        rw [List.map_cons, List.flatten_cons, List.length_append, ih fun i hi => hl i (List.mem_cons_of_mem _ hi), (hF a (hl a (List.mem_cons_self ..))).1, List.length_cons, Nat.succ_mul]; omega
                    rw [this _ fun i hi => List.mem_range.1 hi, List.length_range]
                  · intro j u hu
                    obtain ⟨i, q, r, rfl, hq, hr, hru⟩ := flatV_at hw1 hu
                    rw [List.getElem?_map] at hr
                    cases hri : (List.range len)[i]? with
                    | none => rw [hri] at hr; cases hr
                    | some i' =>
                      rw [hri] at hr
                      have hil := (List.getElem?_eq_some_iff.1 hri).1
                      rw [List.length_range] at hil
                      rw [List.getElem?_range hil] at hri
                      cases hri
                      cases hr
                      exact hgc _ _ (((hF i hil).2.1 q hq).trans hru)
      | struct fs =>
        simp only at h
        cases hfs : fieldsTy P (tyOf P k) fs.toList 0 with
        | none => rw [hfs] at h; cases h
        | some ts =>
          rw [hfs] at h
          simp only [Option.bind_some] at h
          obtain ⟨hb, h⟩ := cond_some h
          cases h
          have hb := beqN hb
          obtain ⟨xs, n', _, hyx, hl, hlen, hf⟩ := DataW.trod_struct hu hy
          obtain ⟨ds, k1, k2⟩ := trod_fields (cs := c) (fun t ty ht n c y hy hw => trod_deep k t ty ht n c y hy hw) fs.toList 0 ts hfs (by omega) (fun f hfm => by
            obtain ⟨i, hi⟩ := List.mem_iff_getElem?.1 hfm
            have hi' : fs[i]? = some f := by rw [← Array.getElem?_toList]; exact hi
            have := hf i f hi'
            have hil : i < fs.size := by
              have := (List.getElem?_eq_some_iff.1 hi).1
              rw [Array.length_toList] at this; exact this
            rw [List.getElem?_eq_getElem (by omega)] at this
            refine ⟨n', _, this, fun x hx => hwt x ?_⟩
            rw [hyx]
            show x ∈ DataW.weights P t _
            rw [DataW.weights, hu]
            simp only
            exact DataW.weights_mem_each (j := i) (by rw [List.getElem?_map, hi]; rfl) (by rw [List.getElem?_map, List.getElem?_eq_getElem (show i < xs.length by omega)]; rfl) x hx)
          rw [List.drop_zero] at k2
          exact ⟨ds, by rw [okT]; exact k1, k2⟩
      | _ => cases h

theorem WdL_one {d : DV} {v : Value} : WdL w [d] [v] ↔ Wd w d v := by
  rw [WdL_cons]
  constructor
  · rintro ⟨u, r, e, h, _⟩
    simp only [List.cons.injEq] at e
    rw [e.1]; exact h
  · intro h; exact ⟨v, [], rfl, h, by rw [WdL_nil]⟩

theorem okT_one {t : Ty} {ds : List DV} (h : okT B t ds) (hn : ∀ ts, t ≠ .st ts) : ∃ d, ds = [d] := by
  have := okT_len h hn
  match ds, this with
  | [d], _ => exact ⟨d, rfl⟩

/-- One argument. -/
theorem arg_deep {t : TypeId} {ty : Ty} {v : Value} {d : DataW Hh} {ps : List MemPlace} {base : Nat} (ht : tyOf P 12 t = some ty) (hval : Value.okWide P w .any base t v) (hd : DataW.Trod enc P w 0 (fun _ => true) held t v d ps) (hwt : ∀ x ∈ d.weights P t, x ≤ B) : ∃ dv, okA B ty dv ∧ Wd w dv v := by
  obtain ⟨fuel, hf⟩ := hd
  obtain ⟨ds, k1, k2⟩ := trod_deep 12 t ty ht fuel _ _ hf hwt
  have hflat : ∀ {v : Value}, v.cells.toList = [v] → (∀ ts, ty ≠ .st ts) → WdL w ds v.cells.toList → ∃ dv, okA B ty dv ∧ Wd w dv v := by
    intro v he hn k2
    obtain ⟨dv, rfl⟩ := okT_one k1 hn
    rw [he, WdL_one] at k2
    refine ⟨dv, ?_, k2⟩
    cases ty with
    | st ts => exact absurd rfl (hn ts)
    | _ => exact k1
  unfold tyOf at ht
  cases hu : P.underlying t with
  | none => rw [hu] at ht; cases ht
  | some u =>
    rw [hu] at ht
    cases u with
    | bool => obtain ⟨b, rfl⟩ := okWide_bool hu hval; cases ht; exact hflat rfl (fun ts h => by cases h) k2
    | int i => obtain ⟨b, rfl⟩ := okWide_int hu hval; cases ht; exact hflat rfl (fun ts h => by cases h) k2
    | string => obtain ⟨b, rfl⟩ := okWide_string hu hval; cases ht; exact hflat rfl (fun ts h => by cases h) k2
    | slice e =>
      obtain ⟨a, l, c, rfl⟩ := okWide_slice hu hval
      simp only at ht
      cases he : tyOf P 11 e with
      | none => rw [he] at ht; cases ht
      | some te =>
        rw [he] at ht
        simp only [Option.bind_some] at ht
        obtain ⟨_, ht⟩ := cond_some ht
        cases ht
        exact hflat rfl (fun ts h => by cases h) k2
    | struct fs =>
      obtain ⟨cs, rfl, _⟩ := okWide_struct hu hval
      simp only at ht
      cases hfs : fieldsTy P (tyOf P 11) fs.toList 0 with
      | none => rw [hfs] at ht; cases ht
      | some ts =>
        rw [hfs] at ht
        simp only [Option.bind_some] at ht
        obtain ⟨_, ht⟩ := cond_some ht
        cases ht
        rw [okT] at k1
        refine ⟨.ag ds, ⟨ds, rfl, k1⟩, ?_⟩
        rw [Wd_ag]
        exact ⟨cs, rfl, k2⟩
    | _ => cases ht

end
end Go.Ev

/- Ranges over functions, in the logic. No conditions beyond those that each theorem states. -/
namespace Go.Ev
open Go.RowKit

def endN : Ex → Bool
  | .normal => true
  | _ => false
def endS : Ex → LoopState
  | .normal => .ready
  | _ => .done
def endC : Ex → Option Code
  | .normal => none
  | .ret => some .ret
  | .exit i => some (.exit i)
  | .goto l => some (.goto l)

/-- A frame out of a trie. -/
noncomputable def trF (t : Tr AV) : Nat → AV := fun i => (t.get i).getD und

/-- What stands at the end of a round's body. -/
def RoundQ (id : Nat) (Q : AV → H → Prop) : Ex → FSt → Prop := fun ex st => st.ds = [] ∧ ∃ ls p t n ps a b d, st.h.loopOf id = some (ls, p, t, n, ps, a, b, d) ∧ Q (.bool (endN ex)) (st.h.set id (.loop (endS ex) (endC ex) t n ps a b d))

/-- What stands behind the assignment of a round's values. -/
def AssignQ (P : Program) (id : Nat) (b : Code) (Q : AV → H → Prop) : Ex → FSt → Prop := fun ex st => ex = .normal ∧ ∃ p t n ps a' b' d, st.h.loopOf id = some (.ready, p, t, n, ps, a', b', d) ∧
  AWp P (some id) b ⟨st.f, st.n, st.h.set id (.loop .busy p t n ps a' b' d), st.ds⟩ (RoundQ id Q)

/-- A round: what the iterator calls. -/
theorem ACalls.yield {P : Program} {id : Nat} {args : List AV} {h : H} {Q : AV → H → Prop} {pend : Option Code} {t : Tr AV} {n : Nat} {ps : Array Tmp} {a b : Code} {dd : Nat} {t1 : Tr AV} {f1 : Nat → AV}
    (hlo : h.loopOf id = some (.ready, pend, t, n, ps, a, b, dd)) (hsz : ps.toList.length = args.length) (ht1 : setParams (ps.toList.zip args) n t = some t1) (hf1 : ∀ i, i < n → f1 i = trF t1 i)
    (hw : AWp P (some id) a ⟨f1, n, h, []⟩ (AssignQ P id b Q)) : ACalls P (.yield id) args h Q := by
  intro σ w p args' hp hv hr
  obtain ⟨hob, q, hq, f, tmps, qd, hwp, hqd, hT⟩ := set_fam hr hlo
  rw [hp] at hq; cases hq
  have hsz' : args'.size = ps.size := by have := hv.1; simp at this hsz; omega
  rw [yield_run hwp hsz']
  intro m
  refine roundIn_of_wpIn trivial ?_
  have hT1 : TR σ t1 n ((ps.zip args').foldl (fun tmps (x : Tmp × Value) => tmps.setIfInBounds x.1 x.2) tmps) := by
    have := setParams_TR ps.toList args args'.toList n t t1 tmps ht1 hv hT
    rw [← Array.foldl_toList, Array.toList_zip]
    exact this
  have hTF : TF σ f1 n ((ps.zip args').foldl (fun tmps (x : Tmp × Value) => tmps.setIfInBounds x.1 x.2) tmps) := ⟨hT1.1, fun i hi => by rw [hf1 i hi]; exact hT1.2 i⟩
  have hassign := hw (Fence.wide.inRound p.b) m σ { tmps := (ps.zip args').foldl (fun tmps (x : Tmp × Value) => tmps.setIfInBounds x.1 x.2) tmps, defers := [] } w ⟨hTF, hr, trivial⟩ ⟨p, hp, rfl⟩
  refine wpIn_mono hassign ?_
  rintro e a1 w1 ⟨ex1, st1, ⟨rfl, pend2, t2, n2, ps2, a2, b2, dd2, hlo2, hb2⟩, hex1, σ1, hs1, hE1, hn1⟩
  have : e = .normal := hex1
  subst this
  obtain ⟨hob2, q2, hq2, f2, tmps2, qd2, hw2, hqd2, hT2⟩ := set_fam hs1.h hlo2
  rw [hE1.le _ _ hp] at hq2; cases hq2
  have hbegin := beginRound_run (P := P) hw2 rfl
  obtain ⟨s1, s2⟩ := hs1.h.set_obj (o' := .loop .busy pend2 t2 n2 ps2 a2 b2 dd2) (ob := .loop { state := .busy, pending := pend2, fn := f2, tmps := tmps2, params := ps2, assign := a2, body := b2, defers := qd2.b }) hob2 rfl rfl (hE1.le _ _ hp) ⟨f2, tmps2, qd2, rfl, hqd2, hT2⟩
  refine ⟨_, hbegin, ?_⟩
  have hbody := hb2 (Fence.wide.inRound p.b) m σ1 a1 _ ⟨hs1.t, s1, hs1.ds⟩ ⟨p, hE1.le _ _ hp, rfl⟩
  refine wpIn_mono hbody ?_
  rintro e3 a3 w3 ⟨ex3, st3, ⟨hds3, ls4, p4, t4, n4, ps4, a4, b4, dd4, hlo4, hQ⟩, hex3, σ3, hs3, hE3, hn3⟩
  have hE13 := (hE1.trans s2).trans hE3
  obtain ⟨hob4, q4, hq4, f4, tmps4, qd4, hw4, hqd4, hT4⟩ := set_fam hs3.h hlo4
  rw [hE13.le _ _ hp] at hq4; cases hq4
  have fin : ∀ (s : LoopState) (j : Option Code) (r : Bool), Q (.bool r) (st3.h.set id (.loop s j t4 n4 ps4 a4 b4 dd4)) → r = j.isNone → s = (if j.isNone then .ready else .done) →
      ∃ v w'', (Instr.endRound p.b j).run P w3 = .ok v w'' ∧ ∃ v', Ending.returned v = .returned v' ∧ GotQ σ h w Q v' w'' := by
    intro s j r e1 e2 e3
    obtain ⟨u1, u2⟩ := hs3.h.set_obj (o' := .loop s j t4 n4 ps4 a4 b4 dd4) (ob := .loop { state := s, pending := j, fn := f4, tmps := tmps4, params := ps4, assign := a4, body := b4, defers := qd4.b }) hob4 rfl rfl (hE13.le _ _ hp) ⟨f4, tmps4, qd4, rfl, hqd4, hT4⟩
    refine ⟨_, _, endRound_run hw4 j, _, rfl, .bool r, _, e1, σ3, by rw [e2]; exact .bool _, ?_, ?_⟩
    · rw [← e3]; exact u1
    · rw [← e3]; exact hE13.trans u2
  cases ex3 with
  | normal =>
    have : e3 = .normal := hex3
    subst this
    exact fin _ _ _ hQ rfl rfl
  | ret =>
    have : e3 = .ret := hex3
    subst this
    exact fin _ _ _ hQ rfl rfl
  | exit i =>
    have : e3 = .exit i := hex3
    subst this
    exact fin _ _ _ hQ rfl rfl
  | goto l =>
    have : e3 = .goto l := hex3
    subst this
    exact fin _ _ _ hQ rfl rfl

/-- What stands behind a range over a function. -/
def RangeQ (P : Program) (ro : Option Nat) (f : Nat → AV) (n : Nat) (ds : List ADf) (id : Nat) (Q : Ex → FSt → Prop) (h' : H) : Prop := ∃ ls p' t' m' ps' a' b' d', h'.loopOf id = some (ls, p', t', m', ps', a', b', d') ∧ ls ≠ .busy ∧
  match p' with
  | none => Q .normal ⟨f, n, h'.set id (.loop .exhausted none t' m' ps' a' b' d'), ds⟩
  | some c => AWp P ro c ⟨f, n, h'.set id (.loop .exhausted (some c) t' m' ps' a' b' d'), ds⟩ Q

theorem AWp.rangeFunc {P : Program} (hng : NoGo P) {ro : Option Nat} {g : Operand} {ps : Array Tmp} {assign body : Code} {f : Nat → AV} {n : Nat} {h : H} {ds : List ADf} {Q : Ex → FSt → Prop} {fid : FuncId} {fn' : Func} {first cap : List AV} {id : Nat} {h1 : H} {ds1 : List ADf}
    (hg : ev (trOf f n) g = some (.fn (.func fid) first cap)) (hfn : P.funcs[fid]? = some fn') (hb : fn'.body.isSome = true) (hen : enterA ro ps assign body ⟨trOf f n, n, h, ds⟩ = some (id, ⟨trOf f n, n, h1, ds1⟩)) {Q1 : AV → H → Prop}
    (hc : ACalls P (.func fid) (first ++ [.fn (.yield id) [] []] ++ cap) h1 Q1) (hk : ∀ v h', Q1 v h' → RangeQ P ro f n ds1 id Q h') : AWp P ro (.rangeFunc g ps assign body) ⟨f, n, h, ds⟩ Q := by
  intro F m σ a w hs hF
  have hgV := hs.sr.t.ev _ _ hg
  refine wpIn_rangeFunc fun fn _ => ?_
  obtain ⟨lb, mark, w1, σ1, p, e1, hp, rfl, hs1, hE1, hn1⟩ := enterA_ok (P := P) hF hs.sr hen fn
  generalize hgv : a.eval g = gv at hgV
  cases hgV with
  | @fn _ _ _ fs' cs' hfy k1 k2 k3 k4 =>
    have hfs : VL σ1 first fs'.toList := ⟨by simpa using k1, fun i a v x y => (k2 i a v x (by simpa using y)).mono hE1.le⟩
    have hcs : VL σ1 cap cs'.toList := ⟨by simpa using k3, fun i a v x y => (k4 i a v x (by simpa using y)).mono hE1.le⟩
    have hargs : VL σ1 (first ++ [.fn (.yield id) [] []] ++ cap) (fs' ++ #[Value.func (.yield p.b) #[] #[]] ++ cs').toList := by
      simp only [Array.toList_append]
      exact (hfs.append (.cons (.yield hp) .nil)).append hcs
    have hfine := hc σ1 w1 _ hargs hs1.h
    have hev : #[Operand.const (Value.func (.yield p.b) #[] #[])].map a.eval = #[Value.func (.yield p.b) #[] #[]] := by simp [Act.eval]
    have hres : (resolve a.eval (rangeCall g p.b) 0).run P w1 = .ok { target := .fn (.func fid) cs', args := fs' ++ #[Value.func (.yield p.b) #[] #[]] } w1 := by
      simp only [resolve, hgv, Deferred.ofValue, Sem.run_pure, hev]
    have hcall := callFunc_enter hng hfn hb (fs' ++ #[Value.func (.yield p.b) #[] #[]] ++ cs') w1
    rw [hcall] at hfine
    refine ⟨p.b, mark, w1, _, w1, fid, _, w1, e1, hres, fun f' _ => hF.fn f', by simpa only [invoke] using hcall, fun h => by rw [hF.depth] at h; simp at h, ?_⟩
    have h2 := hF.calls (n := m - 1) hfine
    refine ⟨h2.1, fun cs hr => ?_⟩
    obtain ⟨e, w3, fr, ⟨v, rfl, av, h', hQ1, σ3, hV, hh3, hE3⟩, h3⟩ := h2.2 cs hr
    refine ⟨.returned v, w3, fr, ?_, h3⟩
    obtain ⟨ls, p', t', m', ps', a', b', d', hlo, hnb, hq⟩ := hk _ _ hQ1
    obtain ⟨ho', q, hq', f0, tm0, qd, g1, g2, g3⟩ := set_fam hh3 hlo
    rw [hE3.le _ _ hp] at hq'; cases hq'
    obtain ⟨s1, s2⟩ := hh3.set_obj (o' := .loop .exhausted p' t' m' ps' a' b' d') (ob := .loop { state := .exhausted, pending := p', fn := f0, tmps := tm0, params := ps', assign := a', body := b', defers := qd.b }) ho' rfl rfl (hE3.le _ _ hp)
      ⟨f0, tm0, qd, rfl, g2, g3⟩
    have hend : (Instr.endLoop p.b).run P w3 = .ok p' { w3 with heap := w3.heap.setIfInBounds p.b (.loop { state := .exhausted, pending := p', fn := f0, tmps := tm0, params := ps', assign := a', body := b', defers := qd.b }) } := by
      have hbz : (ls == LoopState.busy) = false := by cases ls <;> first | rfl | exact absurd rfl hnb
      simp only [Instr.endLoop, Instr.getLoop, Sem.run_bind, run_getObj g1 (by simp), Result.andThen_ok, Sem.run_pure, hbz, Bool.false_eq_true, if_false, run_setObj g1 (by simp)]
    refine ⟨p', _, hend, ?_⟩
    have hext := (hE1.trans hE3).trans s2
    have hsf : SF σ3 ⟨f, n, h'.set id (.loop .exhausted p' t' m' ps' a' b' d'), ds1⟩ { a with defers := mark ++ a.defers } { w3 with heap := w3.heap.setIfInBounds p.b (.loop { state := .exhausted, pending := p', fn := f0, tmps := tm0, params := ps', assign := a', body := b', defers := qd.b }) } :=
      ⟨hs.t.mono (fun i q hi => hE3.le _ _ (hE1.le _ _ hi)), s1, hs1.ds.mono hE3.le⟩
    cases p' with
    | none => exact ⟨_, _, hq, rfl, σ3, hsf, hext, rfl⟩
    | some c => exact AWp.wide (st := ⟨f, n, _, ds1⟩) hq hsf (hF.mono hext.le) hext rfl

/-- Parameters set in a frame. -/
theorem trF_upd {f : Nat → AV} {n k : Nat} {v : AV} (hk : k < n) (i : Nat) (hi : i < n) : upd f k v i = trF ((trOf f n).put k (some v)) i := by
  unfold trF
  rw [put_get]
  by_cases e : i = k
  · subst e; rw [if_pos rfl, upd_same]; rfl
  · rw [if_neg e, trOf_get _ _ _ hi, upd_other _ _ e]; rfl

/-- An outermost range over a function, its record under a name. -/
theorem AWp.rangeFn {P : Program} (hng : NoGo P) {g : Operand} {ps : Array Tmp} {assign body : Code} {f : Nat → AV} {n : Nat} {O : Tr AO} {F : Tr (Nat × Nat)} {N lw : Nat} {ds : List ADf} {Q : Ex → FSt → Prop} {fid : FuncId} {fn' : Func} {first cap : List AV}
    (hg : ev (trOf f n) g = some (.fn (.func fid) first cap)) (hfn : P.funcs[fid]? = some fn') (hb : fn'.body.isSome = true) {Q1 : AO → AV → H → Prop}
    (hc : ∀ lp, lp = AO.loop .ready none (trOf f n) n ps assign body N → ACalls P (.func fid) (first ++ [.fn (.yield (N + 1)) [] []] ++ cap) ⟨(O.put N (some (.dfr false))).put (N + 1) (some lp), F, N + 2, lw⟩ (Q1 lp))
    (hk : ∀ lp v h', lp = AO.loop .ready none (trOf f n) n ps assign body N → Q1 lp v h' → RangeQ P none f n ({ fn := none, blk := N, args := [], cap := [] } :: ds) (N + 1) Q h') : AWp P none (.rangeFunc g ps assign body) ⟨f, n, ⟨O, F, N, lw⟩, ds⟩ Q :=
  AWp.rangeFunc hng hg hfn hb rfl (hc _ rfl) fun v h' h1 => hk _ v h' rfl h1

theorem loopOf_at {h : H} {id : Nat} {ls : LoopState} {p : Option Code} {t : Tr AV} {n : Nat} {ps : Array Tmp} {a b : Code} {d : Nat} (ho : h.objs.get id = some (.loop ls p t n ps a b d)) : h.loopOf id = some (ls, p, t, n, ps, a, b, d) := by
  unfold H.loopOf; rw [ho]

/-- The iterator has run to its end. -/
theorem RangeQ.done {P : Program} {ro : Option Nat} {f : Nat → AV} {n : Nat} {ds : List ADf} {id : Nat} {Q : Ex → FSt → Prop} {h' : H} {t : Tr AV} {m : Nat} {ps : Array Tmp} {a b : Code} {d : Nat} (ho : h'.objs.get id = some (.loop .ready none t m ps a b d))
    (hq : Q .normal ⟨f, n, h'.set id (.loop .exhausted none t m ps a b d), ds⟩) : RangeQ P ro f n ds id Q h' :=
  ⟨_, _, _, _, _, _, _, _, loopOf_at ho, by decide, hq⟩

/-- A round of one parameter. -/
theorem ACalls.yield1 {P : Program} {id : Nat} {x : AV} {h : H} {Q : AV → H → Prop} {f : Nat → AV} {n k : Nat} {a b : Code} {dd : Nat}
    (ho : h.objs.get id = some (.loop .ready none (trOf f n) n #[k] a b dd)) (hkn : Nat.blt k n = true) (hw : AWp P (some id) a ⟨upd f k x, n, h, []⟩ (AssignQ P id b Q)) : ACalls P (.yield id) [x] h Q :=
  ACalls.yield (loopOf_at ho) rfl (t1 := (trOf f n).put k (some x)) (by
    show setParams [(k, x)] n (trOf f n) = _
    simp only [setParams, hkn, cond_tt]) (fun i hi => trF_upd (bltN hkn) i hi) hw

end Go.Ev

/- Maps that are written, step by step; small words. No conditions beyond those that each theorem states. -/
namespace Go.Ev
open Go.RowKit

section
variable {P : Program} {ro : Option Nat} {all : List Oper} {o : Oper} {r : List Oper} {f : Nat → AV} {n : Nat} {O : Tr AO} {F : Tr (Nat × Nat)} {N lw : Nat} {ds : List ADf} {Q : FSt → Prop} {K U : Type} [DecidableEq K] {kv : K → AV} {uv : U → AV}

/-- A key's value is written. -/
theorem AOps.mu {op : Op} {tt kt et : TypeId} {a b x : Operand} {id : Nat} {l : List (K × U)} {k : K} {v : U} {lw' : Nat} (hop : o.op = op) (hor : op = .insert tt a b x ∨ op = .mapUpdate tt a b x) (hdst : o.dst = none) (hw : wantedF all f n o = some true)
    (ha : ev (trOf f n) a = some (.map (some id))) (hb : ev (trOf f n) b = some (kv k)) (hx : ev (trOf f n) x = some (uv v)) (hu : P.underlying tt = some (.map kt et)) (hkk : Keys P kt kv) (hm : MapAt kv uv O id l) (hlw : minN lw id = lw')
    (hk : ∀ o', (∀ j, j ≠ id → o'.get j = O.get j) → MapAt kv uv o' id (putM k v l) → AOps P ro all r ⟨f, n, ⟨o', F, N, lw'⟩, ds⟩ Q) : AOps P ro all (o :: r) ⟨f, n, ⟨O, F, N, lw⟩, ds⟩ Q := by
  subst hlw
  have hup := mapUpdate_map (h := ⟨O, F, N, lw⟩) hu hkk hm k v
  have hopA : opA P (trOf f n) ⟨O, F, N, lw⟩ op = some [(none, (⟨O, F, N, lw⟩ : H).set id (.map (encE kv uv 0 (putM k v l)) (putM k v l).length))] := by
    rcases hor with rfl | rfl
    · show ((ev (trOf f n) a).bind fun m => (ev (trOf f n) b).bind fun k => (ev (trOf f n) x).bind fun x => mapUpdateA P ⟨O, F, N, lw⟩ tt m k x).map (fun h => [(none, h)]) = _
      rw [ha, hb, hx]
      simp only [Option.bind_some]
      rw [hup]; rfl
    · rw [op_mapUpdate, ha, hb, hx]
      simp only [Option.bind_some]
      rw [hup]; rfl
  have hnd : noDefer op = true := by rcases hor with rfl | rfl <;> rfl
  refine AOps.u hop hdst hw hnd hopA ?_
  exact hk _ (fun j hj => put_other _ _ hj) (mapAt_put _)
end

theorem minN_trans {a b c : Nat} (h1 : a ≤ b) (h2 : a ≤ c) : minN (minN a b) c = a := by rw [minN_left h1, minN_left h2]

/-- Over, in its parts. -/
theorem Over.mk' {Z : Nat} {O O' : Tr AO} {F F' : Tr (Nat × Nat)} {N N' lw : Nat} (h1 : N ≤ N') (h2 : ∀ j, j < Z → O'.get j = O.get j) (h3 : ∀ j, j < Z → F'.get j = F.get j) : Over Z ⟨O, F, N, lw⟩ ⟨O', F', N', lw⟩ := ⟨h1, h2, h3, fun _ => rfl⟩

theorem rowO_of {o o' : Tr AO} {id : Nat} {r : List AV} (h : rowO o id = some r) (he : o'.get id = o.get id) : rowO o' id = some r := by unfold rowO at h ⊢; rw [he]; exact h

end Go.Ev

/- The arguments of a law, read off: fields, rows, slices of rows. No conditions beyond those that each theorem states. -/
namespace Go.Ev
open Go.RowKit
section
variable {B : Nat} {ts : List Ty} {ds : List DV} {s : Bool} {h : H}

theorem okTs_nil (hk : okTs B [] ds) : ds = [] := by rw [okTs] at hk; exact hk
theorem okTs_str (hk : okTs B (.str :: ts) ds) : ∃ (x : List Nat) (r : List DV), ds = .fl (.str x) :: r ∧ (∀ b ∈ x, b < 256) ∧ x.length ≤ B ∧ okTs B ts r := by
  rw [okTs] at hk
  obtain ⟨d1, d2, rfl, h1, h2⟩ := hk
  rw [okT] at h1
  obtain ⟨x, rfl, h3, h4⟩ := h1
  exact ⟨x, d2, rfl, h3, h4, h2⟩
theorem okTs_int {k : IntKind} (hk : okTs B (.int k :: ts) ds) : ∃ (n : Int) (r : List DV), ds = .fl (.int k n) :: r ∧ (Lit.int k n).wf = true ∧ okTs B ts r := by
  rw [okTs] at hk
  obtain ⟨d1, d2, rfl, h1, h2⟩ := hk
  rw [okT] at h1
  obtain ⟨n, rfl, h3⟩ := h1
  exact ⟨n, d2, rfl, h3, h2⟩
theorem okTs_bool (hk : okTs B (.bool :: ts) ds) : ∃ (b : Bool) (r : List DV), ds = .fl (.bool b) :: r ∧ okTs B ts r := by
  rw [okTs] at hk
  obtain ⟨d1, d2, rfl, h1, h2⟩ := hk
  rw [okT] at h1
  obtain ⟨b, rfl⟩ := h1
  exact ⟨b, d2, rfl, h2⟩
theorem okTs_sl {t : Ty} (hk : okTs B (.sl t :: ts) ds) : ∃ (nl : Bool) (rows : List (List DV)) (r : List DV), ds = .sl nl rows.length t.size rows.flatten :: r ∧ rows.length ≤ B ∧ (∀ x ∈ rows, okT B t x) ∧ okTs B ts r := by
  rw [okTs] at hk
  obtain ⟨d1, d2, rfl, h1, h2⟩ := hk
  rw [okT] at h1
  obtain ⟨nl, rows, rfl, h3, h4⟩ := h1
  exact ⟨nl, rows, d2, rfl, h3, h4, h2⟩
theorem okTs_app : ∀ {us : List Ty} {d1 d2 : List DV}, okTs B us d1 → okTs B ts d2 → okTs B (us ++ ts) (d1 ++ d2)
  | [], d1, d2, h1, h2 => by rw [okTs] at h1; subst h1; exact h2
  | u :: us, d1, d2, h1, h2 => by
    rw [okTs] at h1
    obtain ⟨e1, e2, rfl, h3, h4⟩ := h1
    show okTs B (u :: (us ++ ts)) _
    rw [okTs]
    exact ⟨e1, e2 ++ d2, List.append_assoc .., h3, okTs_app h4 h2⟩
theorem okTs_st {us : List Ty} (hk : okTs B (.st us :: ts) ds) : okTs B (us ++ ts) ds := by
  rw [okTs] at hk
  obtain ⟨d1, d2, rfl, h1, h2⟩ := hk
  rw [okT] at h1
  exact okTs_app h1 h2

theorem DpL.app {as : List AV} : ∀ {d1 d2 : List DV} {as : List AV}, DpL s h (d1 ++ d2) as → ∃ a1 a2, as = a1 ++ a2 ∧ DpL s h d1 a1 ∧ DpL s h d2 a2
  | [], d2, as, hd => ⟨[], as, rfl, by rw [DpL_nil], hd⟩
  | d :: d1, d2, as, hd => by
    rw [List.cons_append, DpL_cons] at hd
    obtain ⟨a, r, rfl, h1, h2⟩ := hd
    obtain ⟨a1, a2, rfl, h3, h4⟩ := DpL.app (as := []) h2
    exact ⟨a :: a1, a2, rfl, by rw [DpL_cons]; exact ⟨a, a1, rfl, h1, h3⟩, h4⟩

theorem DpL_fl {as : List AV} {a0 : AV} : DpL s h (.fl a0 :: ds) as ↔ ∃ r, as = a0 :: r ∧ flatA a0 = true ∧ DpL s h ds r := by
  rw [DpL_cons]
  constructor
  · rintro ⟨a, r, rfl, h1, h2⟩
    rw [Dp_fl] at h1
    obtain ⟨rfl, h3⟩ := h1
    exact ⟨r, rfl, h3, h2⟩
  · rintro ⟨r, rfl, h1, h2⟩
    exact ⟨a0, r, rfl, by rw [Dp_fl]; exact ⟨rfl, h1⟩, h2⟩

/-- Rows, each of one thing. -/
theorem DpL.rows {α : Type} (cells : α → List AV) (ok : α → Prop) : ∀ {rows : List (List DV)} {as : List AV}, (∀ r ∈ rows, ∀ as, DpL s h r as → ∃ x, as = cells x ∧ ok x) → DpL s h rows.flatten as →
    ∃ xs : List α, xs.length = rows.length ∧ as = (xs.map cells).flatten ∧ ∀ x ∈ xs, ok x
  | [], as, _, hd => by
    rw [List.flatten_nil, DpL_nil] at hd
    subst hd
    exact ⟨[], rfl, rfl, fun x hx => (List.not_mem_nil hx).elim⟩
  | r :: rows, as, hr, hd => by
    rw [List.flatten_cons] at hd
    obtain ⟨a1, a2, rfl, h1, h2⟩ := DpL.app (as := []) hd
    obtain ⟨x, rfl, hx⟩ := hr r (List.mem_cons_self ..) a1 h1
    obtain ⟨xs, hl, rfl, hxs⟩ := DpL.rows cells ok (fun q hq => hr q (List.mem_cons_of_mem _ hq)) h2
    refine ⟨x :: xs, by simp [hl], by simp, fun y hy => ?_⟩
    rcases List.mem_cons.1 hy with rfl | hy
    · exact hx
    · exact hxs y hy

/-- A slice of rows. -/
theorem Dp.slice {α : Type} (cells : α → List AV) (ok : α → Prop) {nl : Bool} {rows : List (List DV)} {e : Nat} {a : AV} (he : ∀ x, (cells x).length = e) (hr : ∀ r ∈ rows, ∀ as, DpL s h r as → ∃ x, as = cells x ∧ ok x) (hd : Dp s h (.sl nl rows.length e rows.flatten) a) :
    ∃ xs : List α, xs.length = rows.length ∧ RdS h a e (xs.map cells) ∧ (∀ x ∈ xs, ok x) ∧ a.cells = [a] ∧ oneC a = true ∧ ∀ n, eqTop (n + 1) a a = true := by
  rw [Dp_sl] at hd
  rcases hd with ⟨h1, h2, ⟨o, e', c, rfl, ho⟩, _⟩ | ⟨_, id, off, cap, row, as, rfl, h1, h2, h3, h4, h5⟩
  · have hrows : rows = [] := List.length_eq_zero_iff.1 h1
    subst hrows
    refine ⟨[], rfl, ⟨fun r hr => (List.not_mem_nil hr).elim, .inl ⟨rfl, _, _, _, rfl⟩⟩, fun x hx => (List.not_mem_nil hx).elim, rfl, rfl, fun n => ?_⟩
    cases o with
    | none => rw [ho rfl]; simp only [eqTop, Nat.beq_refl, Bool.and_self]
    | some p => obtain ⟨p, q⟩ := p; exact eqTop_slice _ _ _ _ _ _
  · obtain ⟨xs, hl, rfl, hok⟩ := DpL.rows cells ok hr h5
    refine ⟨xs, hl, ⟨fun r hr => ?_, .inr ⟨id, off, cap, row, ?_, h1, h2, ?_, ?_⟩⟩, hok, rfl, rfl, fun n => eqTop_slice _ _ _ _ _ _⟩
    · obtain ⟨x, _, rfl⟩ := List.mem_map.1 hr; exact he x
    · rw [List.length_map, hl]
    · rw [List.length_map, hl]; exact h3
    · rw [List.length_map, hl]; exact h4.symm
end
end Go.Ev

/- What an append leaves as it was. No conditions beyond those that each theorem states. -/
namespace Go.Ev
noncomputable section

theorem alone_keep {h : H} {id fam x y : Nat} (hf : h.fams.get fam = some (x, y)) {i : Nat} (hx : i ≠ x) (hy : i ≠ y) : (h.alone id fam).objs.get i = h.objs.get i := by
  unfold H.alone
  rw [hf]
  simp only
  cases hb : (Nat.beq x id && Nat.beq y id)
  · rw [cond_ff]
    simp only
    cases Nat.beq y id
    · rw [cond_ff]
      cases Nat.beq x id
      · rw [cond_ff, put_other _ _ hy, put_other _ _ hx]
      · rw [cond_tt, put_other _ _ hy]
    · rw [cond_tt, put_other _ _ hx]
  · rw [cond_tt]

/-- Rows are appended in a heap that has grown: what was laid in between stays. -/
theorem append_mid {P : Program} {st xt e e' : TypeId} {i : TypeInfo} {z : AV} {s : Nat} (hu : P.underlying st = some (.slice e)) (hux : P.underlying xt = some (.slice e')) (hi : P.info? e = some i) (hz : zeroA P e = some z) (hzl : z.cells.length = s) (his : i.size = s) (hs0 : s ≠ 0) (hib : i.bytes ≤ 10000)
    {Z : Nat} {h0 h : H} {v y : AV} {rows new : List (List AV)} (hv0 : OutAt Z h0 v s rows) (hko : ∀ j, j < h0.next → h.objs.get j = h0.objs.get j) (hkf : ∀ j, j < h0.next → h.fams.get j = h0.fams.get j) (hkn : h0.next ≤ h.next) (hZ : Z ≤ h0.next) (hy : RdS h y s new) (hone : new.flatten.all oneC = true) (hn0 : new ≠ [])
    (hl1 : rows.length ≤ 1000000) (hl2 : new.length ≤ 1000000) : ∃ v' h', appendA P h st xt v y = some (v', h') ∧ OutAt Z h' v' s (rows ++ new) ∧ Over Z h h' ∧ ∀ j, h0.next ≤ j → j < h.next → h'.objs.get j = h.objs.get j := by
  have hv : OutAt Z h v s rows := hv0.keep (fun j _ hj => hko j hj) (fun j _ hj => hkf j hj) hkn
  have happ := appended_rd (P := P) (e := e) (xt := xt) hux hy
  obtain ⟨v', h', g1, g2, g3, g4⟩ := append_gen (P := P) (st := st) hu hi hz hzl his hs0 hib hv (by omega) happ hy.wide hone hn0 hl1 hl2
  refine ⟨v', h', g1, g2, g3, fun j hj1 hj2 => ?_⟩
  have hsz : i.size = z.cells.length := by rw [his, hzl]
  have hnl : Nat.beq new.length 0 = false := by
    cases hb : Nat.beq new.length 0
    · rfl
    · exact absurd (List.length_eq_zero_iff.1 (beqN hb)) hn0
  have hs0' : Nat.beq i.size 0 = false := by
    cases hb : Nat.beq i.size 0
    · rfl
    · exact absurd (beqN hb) (by rw [his]; exact hs0)
  have hfirst : (Nat.beq z.cells.length i.size && (!(Nat.beq i.size 0) && (Nat.ble rows.length 1000000 && Nat.ble i.bytes 10000))) = true := by
    rw [hsz, Nat.beq_refl, ← hsz, hs0', Nble hl1, Nble hib]; rfl
  rw [his] at hfirst hs0'
  obtain ⟨hwr, hv⟩ := hv0
  rcases hv with ⟨rfl, rfl⟩ | ⟨id, fam, x, y', hne, rfl, ho, hf, hxy, z1, z2, z3, z4, l1, l2, l3, l4⟩
  · simp only [List.length_nil] at hfirst
    unfold appendA at g1
    simp only [hu, hi, hz, Option.bind_some, his, hfirst, cond_tt, happ, hnl, cond_ff, Nble hl2, H.newCells, Option.some.injEq, Prod.mk.injEq] at g1
    obtain ⟨_, rfl⟩ := g1
    exact put_other _ _ (by omega)
  · have hfl : rows.flatten.length = rows.length * s := flat_len hwr
    have ho' : h.objs.get id = some (.cells rows.flatten fam) := (hko id l1).trans ho
    have hf' : h.fams.get fam = some (x, y') := (hkf fam l4).trans hf
    obtain ⟨_, a2⟩ := alone_over (id := id) hf' z2 z3 z4
    unfold appendA at g1
    simp only [hu, hi, hz, Option.bind_some, his, hfirst, cond_tt, happ, hnl, cond_ff, Nble hl2, Nat.beq_refl, ho', Nat.zero_add, Nble (show rows.length * s ≤ rows.flatten.length by omega), hone, Option.some.injEq, Prod.mk.injEq] at g1
    obtain ⟨_, rfl⟩ := g1
    simp only [H.forked]
    rw [put_other _ _ (by omega), put_other _ _ (by omega)]
    exact alone_keep hf' (by omega) (by omega)
end
end Go.Ev

/- Appends to an empty literal, and of nothing. No conditions beyond those that each theorem states. -/
namespace Go.Ev
noncomputable section

theorem append_lit {P : Program} {st xt e e' : TypeId} {i : TypeInfo} {z : AV} {s : Nat} (hu : P.underlying st = some (.slice e)) (hux : P.underlying xt = some (.slice e')) (hi : P.info? e = some i) (hz : zeroA P e = some z) (hzl : z.cells.length = s) (his : i.size = s) (hs0 : s ≠ 0) (hib : i.bytes ≤ 10000)
    {h : H} {id : Nat} {cs : List AV} (hid : rowO h.objs id = some cs) {y : AV} {new : List (List AV)} (hy : RdS h y s new) (hn0 : new ≠ []) (hl2 : new.length ≤ 1000000) :
    appendA P h st xt (.slice (some (id, 0)) 0 s (some 0)) y = some (.slice (some (h.next, 0)) new.length s none, (h.newCells new.flatten).2) := by
  have happ := appended_rd (P := P) (e := e) (xt := xt) hux hy
  have hbl : Nat.beq z.cells.length i.size = true := by rw [hzl, his, Nat.beq_refl]
  have hs0' : Nat.beq i.size 0 = false := by
    cases hb : Nat.beq i.size 0
    · rfl
    · exact absurd (beqN hb) (by rw [his]; exact hs0)
  have hnl : Nat.beq new.length 0 = false := by
    cases hb : Nat.beq new.length 0
    · rfl
    · exact absurd (List.length_eq_zero_iff.1 (beqN hb)) hn0
  have hnb : Nat.ble new.length 0 = false := by
    cases hb : Nat.ble new.length 0
    · rfl
    · have := Nat.le_of_ble_eq_true hb
      exact absurd (List.length_eq_zero_iff.1 (by omega)) hn0
  unfold appendA
  simp only [hu, hi, hz, Option.bind_some, hbl, hs0', Nble (show 0 ≤ 1000000 by omega), Nble hib, Bool.not_false, Bool.and_self, cond_tt]
  rw [his, happ]
  simp only [Option.bind_some, hnl, cond_ff, Nble hl2, cond_tt, Nat.beq_refl, hnb, sliceCells, Option.map_some, H.newCells, Nat.zero_add, List.nil_append]

theorem lit_out {Z : Nat} {h : H} {s : Nat} {new : List (List AV)} (hZ : Z ≤ h.next) (hw : ∀ r ∈ new, r.length = s) (hn0 : new ≠ []) : OutAt Z (h.newCells new.flatten).2 (.slice (some (h.next, 0)) new.length s none) s new := by
  refine ⟨hw, .inr ⟨h.next, h.next, h.next, h.next, hn0, rfl, ?_, ?_, .inl rfl, hZ, hZ, hZ, hZ, Nat.lt_succ_self _, Nat.lt_succ_self _, Nat.lt_succ_self _, Nat.lt_succ_self _⟩⟩
  · exact put_same _ _ _
  · exact put_same _ _ _

theorem append_none {P : Program} {st xt e e' : TypeId} {i : TypeInfo} {z : AV} {s : Nat} (hu : P.underlying st = some (.slice e)) (hux : P.underlying xt = some (.slice e')) (hi : P.info? e = some i) (hz : zeroA P e = some z) (hzl : z.cells.length = s) (his : i.size = s) (hs0 : s ≠ 0) (hib : i.bytes ≤ 10000)
    {h : H} {o : Option (Nat × Nat)} {n es : Nat} {c : Option Nat} {y : AV} (hy : RdS h y s []) (hl1 : n ≤ 1000000) :
    appendA P h st xt (.slice o n es c) y = some (.slice o n es c, h) := by
  have happ := appended_rd (P := P) (e := e) (xt := xt) hux hy
  have hbl : Nat.beq z.cells.length i.size = true := by rw [hzl, his, Nat.beq_refl]
  have hs0' : Nat.beq i.size 0 = false := by
    cases hb : Nat.beq i.size 0
    · rfl
    · exact absurd (beqN hb) (by rw [his]; exact hs0)
  unfold appendA
  simp only [hu, hi, hz, Option.bind_some, hbl, hs0', Nble hl1, Nble hib, Bool.not_false, Bool.and_self, cond_tt]
  rw [his, happ]
  rfl

end
end Go.Ev
