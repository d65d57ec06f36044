/- AuditNets returns true at every input of bulk at most 1048576, and each argument reads behind the call as it read before. No conditions beyond the bulk, which the statement itself bears. -/
import Derived.Test.YtpanlnnlhpnlcaaGreatSk
import Derived.Test.YtpanlnnlhpnlcaaGreatSj
import Derived.Test.YtpanlnnlhpnlcaaGreatSe
import Derived.JoinedCond
import Derived.Test.YtpanlnnlhpnlcaaGreatRows

set_option linter.unusedSimpArgs false
set_option linter.unusedVariables false
set_option linter.unusedSectionVars false

namespace Go.Proofs.YtpanlnnlhpnlcaaGreat
open Go.Proofs Go.Ev Go.ChangeShapes Go.WideShapes Go.ChangeAt Go.RowKit Go.Deep

set_option maxRecDepth 100000

theorem bulk_all {H : Type} {D : Nat → DataW H} {l : List Nat} (h : ∀ i ∈ l, 4 ≤ Rows.uptoBulk (D i)) : 4 * l.length ≤ Rows.uptoBulkAll (l.map D) := by
  induction l with
  | nil => simp
  | cons x l ih =>
    have h1 := ih fun i hi => h i (List.mem_cons_of_mem _ hi)
    have h2 := h x (List.mem_cons_self ..)
    simp only [List.map_cons, Rows.uptoBulkAll, List.length_cons]; omega

theorem bulk_one {H : Type} (d : DataW H) : 1 ≤ Rows.uptoBulk d := by
  cases d with
  | lit l => cases l <;> simp [Rows.uptoBulk]
  | _ => simp [Rows.uptoBulk]

theorem bulk56 {H : Type} {enc : TypeId × Value → H} {W : World} {a : Option Addr} {n c : Nat} {d : DataW H} {ps : List MemPlace} (hd : DataW.Trod enc Tryz.prog W 0 (fun _ => true) true 56 (.slice a n c) d ps) : 4 * n ≤ Rows.uptoBulk d := by
  obtain ⟨fuel, hf⟩ := hd
  rcases open_slice Tryz.underlying56 hf with ⟨hcs, _⟩ | ⟨a', len, cap, m, k, D, Pl, hcs, _, hl, _, hm, hx, hall⟩
  · have hcs : ([Value.slice a n c] : List Value) = [.slice none 0 0] := hcs
    simp only [List.cons.injEq, Value.slice.injEq, and_true] at hcs
    omega
  · have hcs : ([Value.slice a n c] : List Value) = [.slice (some a') len cap] := hcs
    simp only [List.cons.injEq, Value.slice.injEq, and_true] at hcs
    obtain ⟨_, rfl, rfl⟩ := hcs
    simp only [if_true] at hm
    simp only [Prod.mk.injEq] at hx
    obtain ⟨rfl, _⟩ := hx
    have := bulk_all (D := D) (l := List.range n) (fun i hi => by
      obtain ⟨cs', _, h2⟩ := hall i (by have := List.mem_range.1 hi; omega)
      obtain ⟨y0, y1, y2, m', he, _⟩ := trod_struct3 Tryz.underlying60 h2
      simp only [Prod.mk.injEq] at he
      rw [he.1]
      have h0 := bulk_one y0.1
      have h1 := bulk_one y1.1
      have h3 := bulk_one y2.1
      simp only [Rows.uptoBulk, Rows.uptoBulkAll]; omega)
    rw [List.length_range] at this
    simp only [Rows.uptoBulk]; omega

theorem argX_len {W : World} {a : Option Addr} {n c : Nat} {g : Nat → AV} {x : Plc × Option (List AV)} {ts : List Xf} (hx : ArgX W (.slice a n c) g x ts) : ts.length = n := by
  have hr := hx.rds (hpL [x]) 0 (show 0 < 1 from by decide) (by rw [hpL_get]; rfl)
  obtain ⟨o, e, c', he⟩ := hr.len
  rw [List.length_map] at he
  have hV := hx.rel (sgL [x]) 0 (sgL_at rfl)
  rw [he] at hV
  generalize ts.length = k at hV
  cases hV with
  | sliceN hl => exact hl
  | slice => rfl

theorem nets_lifted (os : Os) (started : os.Started) (H : Type) (enc : TypeId × Value → H) (F : Stop.Interp) :
    ReturnsInHanded {} Tryz.checked os 5 .any ((Rows.OpenSpec.upto Rows.auditNetsSpec).pre6 enc Tryz.prog Tryz.f5 Rows.auditNetsUptoRow.domain false) (((Rows.OpenSpec.upto Rows.auditNetsSpec).at F).post enc Tryz.prog Tryz.f5 false true false false) := by
  refine returnsInHanded_of_cond (C := Tryz.checked) (s := Rows.OpenSpec.upto Rows.auditNetsSpec) (k := Rows.uptoSmall) rfl ownK started (by kernel_rfl) Tryz.func5
    (OpenSpec.witness (enc := enc) (C := Tryz.checked) (s := Rows.OpenSpec.upto Rows.auditNetsSpec) (k := Rows.uptoSmall) rfl false ⟨#[], #[.slice none 0 0, .slice none 0 0], []⟩ 8 (by kernel_rfl) (by kernel_rfl) (by kernel_rfl)
      (x := ([.nil, .nil], [], [])) (by kernel_rfl) rfl (by kernel_rfl)) ?_
  intro W base args ds gs before hval0 hW _ hk _
  have hval : ∀ (j : Nat) t v, Tryz.f5.params[j]? = some t → args[j]? = some v → Value.okWide Tryz.prog W .any base t v := hval0
  have hW' := hW
  obtain ⟨p, q, hA0, hV, rfl, hfz, hnd⟩ := hW
  have hA : DataW.TrodAll enc Tryz.prog W 0 (fun _ => true) true Tryz.f5.params.toList args.toList ds p := hA0
  rw [Tryz.params5] at hA hval
  obtain ⟨v0, v1, d0, d1, p0, p1, rfl, rfl, rfl, h0, h1⟩ := trodAll_two hA
  obtain ⟨rfl, rfl⟩ := trodVars_none hV
  obtain ⟨a0, n0, c0, rfl⟩ := okWide_slice Tryz.underlying56 (hval 0 56 v0 rfl rfl)
  obtain ⟨a1, n1, c1, rfl⟩ := okWide_slice Tryz.underlying56 (hval 1 56 v1 rfl rfl)
  obtain ⟨g0, x0, ts0, b0⟩ := argX (hval 0 56 _ rfl rfl) h0
  obtain ⟨g1, x1, ts1, b1⟩ := argX (hval 1 56 _ rfl rfl) h1
  have hb : Rows.uptoBulkAll ([d0, d1] ++ []) ≤ 1048576 := of_decide_eq_true hk
  simp only [List.cons_append, List.nil_append, Rows.uptoBulkAll] at hb
  have hl0 : ts0.length ≤ 300000 := by
    have := bulk56 h0
    rw [argX_len b0]; omega
  have hl1 : ts1.length ≤ 300000 := by
    have := bulk56 h1
    rw [argX_len b1]; omega
  refine (two_run Tryz.func5 rfl b0 b1 fun h hv hw => Tryz.nets Tryz.sortS ts0 ts1 hl0 hl1 b0.row b1.row (g0 0) (g1 1) h hv hw).mono fun e W' ⟨he, hb⟩ => ?_
  subst he
  have hlt : ∀ x ∈ p0 ++ p1, x.block < W.heap.size := fun x hx => by simpa using hW'.lt x (by simpa using hx)
  have k0 := Below.trod outL (by kernel_rfl) (of_decide_eq_true (by kernel_rfl)) h0 hb (fun x hx => hlt x (List.mem_append_left _ hx))
  have k1 := Below.trod outL (by kernel_rfl) (of_decide_eq_true (by kernel_rfl)) h1 hb (fun x hx => hlt x (List.mem_append_right _ hx))
  exact ⟨_, rfl, _, _, _, [], _, [], hW', trodAll_mk1 (shut_bool Tryz.underlying4 true), trodAll_mk2 k0 k1, rfl, hb.frame _, fun h => by cases h⟩

theorem auditNets_holds : Rows.AuditNetsUptoSaid :=
  OpenClaim.holds_of_cond 5 Tryz.f5 rfl rfl rfl rfl rfl rfl rfl ⟨rfl, rfl, rfl, rfl, rfl⟩ rfl rfl rfl rfl rfl (by kernel_rfl) Tryz.func5 (by kernel_rfl)
    (of_decide_eq_true (by kernel_rfl)) (by unfold Func.isWrapper; first | (rw [if_pos (by decide +kernel)]; kernel_rfl) | (rw [if_neg (by decide +kernel)]; exact ⟨rfl, rfl⟩))
    (fun os started H enc _ F => nets_lifted os started H enc F)

end Go.Proofs.YtpanlnnlhpnlcaaGreat
