/- Seat r1: the classes of bytes, by one kernel computation. -/
import Derived.Test.YtpanlnnlhpnlcaaGreatSa
import Derived.Test.YtpanlnnlhpnlcaaGreatGf

set_option linter.unusedSimpArgs false
set_option linter.unusedVariables false
set_option linter.unusedSectionVars false

namespace Go.Proofs
open Go.Ev
set_option maxRecDepth 100000

/-- The class of a byte, as lexer.classes lays it. -/
def clsN (b : Nat) : Nat :=
  bif isLetterN b then 3 else bif Nat.ble 48 b && Nat.ble b 57 then 4 else bif Nat.beq b 35 then 2 else bif Nat.beq b 95 then 5 else bif Nat.beq b 34 then 7 else
  bif [32, 9, 10].any (Nat.beq b) then 1 else bif [59, 44, 46, 58, 40, 41, 123, 125, 91, 93, 61, 60, 62, 47, 43, 45, 42].any (Nat.beq b) then 6 else 0

def clsL : List AV := (List.range 256).map fun b => AV.int .u8 (Int.ofNat (clsN b))

theorem Tryz.classes_ev : ends (evVF Tryz.prog [(234, .indexByte)] 2000 60 (.func 86) [] hz) (.agg clsL) = true := by kernel_rfl

theorem Tryz.xclasses : XOne Tryz.prog 86 (.const (.agg clsL)) :=
  XOne.const Tryz.nogo (.cons Tryz.xindex .nil) Tryz.func86 (by kernel_rfl) (by kernel_rfl) (by rw [← evVF_eq]; exact Tryz.classes_ev)

theorem clsL_len : clsL.length = 256 := by simp [clsL]
theorem clsL_get (b : Nat) (h : b < 256) : clsL[b]? = some (.int .u8 (clsN b : Int)) := by
  unfold clsL
  rw [List.getElem?_map, List.getElem?_range h]
  rfl
theorem clsL_oneC : clsL.all oneC = true := by
  rw [List.all_eq_true]
  intro x hx
  obtain ⟨b, _, rfl⟩ := List.mem_map.1 hx
  rfl
theorem Tryz.classes (h : H) : ACalls Tryz.prog (.func 86) [] h (fun v h' => v = .agg clsL ∧ h' = h) := .of_x Tryz.xclasses rfl

theorem Tryz.zero160 : (zeroA Tryz.prog 160).map (fun z => z.cells.length) = some 256 := by kernel_rfl

end Go.Proofs

/- Seat r1: lexer.Name. No conditions beyond those that each theorem states. -/
namespace Go.Proofs
open Go.Ev
set_option maxRecDepth 100000

theorem cls_spec : ∀ b, b < 256 → (decide (clsN b = 3) = isLetterN b) ∧ ((decide (clsN b = 3) || (decide (clsN b = 4) || decide (clsN b = 5))) = isMoreN b) := by decide +kernel

theorem nameN_0 (s : List Nat) (b : Nat) (h0 : s[0]? = some b) (h : isLetterN b = false) : nameN s = false := by
  cases s with
  | nil => rfl
  | cons a l => simp at h0; subst h0; simp only [nameN, h, Bool.false_and]

set_option maxHeartbeats 1000000 in
theorem Tryz.lexName (s : List Nat) (hs : s.length ≤ 1000000) (hb : ∀ b ∈ s, b < 256) (h : H) : ACalls Tryz.prog (.func 48) [.str s] h (fun v h' => v = .bool (nameN s) ∧ h' = h) := by
  refine ACalls.body (n := 39) Tryz.nogo Tryz.func48 rfl rfl ?_
  rw [argF1]
  obtain ⟨z, hz, hzl⟩ : ∃ z, zeroA Tryz.prog 160 = some z ∧ z.cells.length = 256 := by
    have := Tryz.zero160
    cases hz : zeroA Tryz.prog 160 with
    | none => rw [hz] at this; simp at this
    | some z => rw [hz] at this; exact ⟨z, rfl, by simpa using this⟩
  (repeat refine AWp.seq ?_); change AWp _ _ _ _ _; refine AWp.region ?_; (repeat (first | refine AOps.v rfl rfl rfl rfl rfl (by simp only [evS, cond_tt, cond_ff, absV, depthV, Nat.reduceEqDiff, Nat.reduceLT, ↓reduceIte, Option.map_some, Option.bind_some, List.toList_toArray]; rfl) ?_ | refine AOps.s rfl rfl rfl ?_ | refine AOps.u rfl rfl rfl rfl (by simp only [evS, cond_tt, cond_ff, absV, depthV, Nat.reduceEqDiff, Nat.reduceLT, ↓reduceIte, Option.map_some, Option.bind_some, List.toList_toArray]; rfl) ?_)); refine AOps.nil ?_
  (repeat refine AWp.seq ?_)
  refine AWp.region ?_
  refine AOps.c rfl rfl rfl rfl rfl (by simp only [callOf_val, callW_fn, evS, cond_tt, cond_ff, absV, depthV, Nat.reduceEqDiff, Nat.reduceLT, ↓reduceIte, Option.map_some, Option.bind_some, List.toList_toArray]; rfl) rfl (Tryz.classes _) ?_; rintro _ _ ⟨rfl, rfl⟩
  (repeat (first | refine AOps.v rfl rfl rfl rfl rfl (by simp only [evS, cond_tt, cond_ff, absV, depthV, Nat.reduceEqDiff, Nat.reduceLT, ↓reduceIte, Option.map_some, Option.bind_some, List.toList_toArray, hz]; rfl) ?_ | refine AOps.s rfl rfl rfl ?_ | refine AOps.u rfl rfl rfl rfl (by simp only [evS, cond_tt, cond_ff, absV, depthV, Nat.reduceEqDiff, Nat.reduceLT, ↓reduceIte, Option.map_some, Option.bind_some, List.toList_toArray, hz]; rfl) ?_))
  refine AOps.st rfl rfl rfl (by simp only [evS, cond_tt, cond_ff, absV, depthV, Nat.reduceEqDiff, Nat.reduceLT, ↓reduceIte, Option.map_some, Option.bind_some, List.toList_toArray]; rfl) (by simp only [evS, cond_tt, cond_ff, absV, depthV, Nat.reduceEqDiff, Nat.reduceLT, ↓reduceIte, Option.map_some, Option.bind_some, List.toList_toArray]; rfl) (by rw [show (AV.agg clsL).cells.length = 256 from clsL_len]; exact Tryz.size160) (by simp only [H.lay, put_get]; rfl) (by simp only [H.lay, put_get]; rfl) (by rw [hzl, show (AV.agg clsL).cells.length = 256 from clsL_len]; rfl) (by exact clsL_oneC) (cs' := clsL)
    (by rw [show (AV.agg clsL).cells.length = 256 from clsL_len, List.drop_eq_nil_of_le (by omega)]; simp [cells_agg]) (by simp only [H.lay, minN_self]; rfl) ?_
  refine AOps.nil ?_
  (repeat refine AWp.seq ?_); change AWp _ _ _ _ _; refine AWp.region ?_; (repeat (first | refine AOps.v rfl rfl rfl rfl rfl (by simp only [evS, cond_tt, cond_ff, absV, depthV, Nat.reduceEqDiff, Nat.reduceLT, ↓reduceIte, Option.map_some, Option.bind_some, List.toList_toArray, load_one Tryz.agg5, iaddr_array Tryz.underlying160 Tryz.size5, len_str Tryz.underlying9, H.lay, rowO_put, rowA_cells, Nat.zero_add, Nat.add_zero, put_get, store_some]; rfl) ?_ | refine AOps.s rfl rfl rfl ?_ | refine AOps.u rfl rfl rfl rfl (by simp only [evS, cond_tt, cond_ff, absV, depthV, Nat.reduceEqDiff, Nat.reduceLT, ↓reduceIte, Option.map_some, Option.bind_some, List.toList_toArray, load_one Tryz.agg5, iaddr_array Tryz.underlying160 Tryz.size5, len_str Tryz.underlying9, H.lay, rowO_put, rowA_cells, Nat.zero_add, Nat.add_zero, put_get, store_some]; rfl) ?_)); refine AOps.nil ?_
  (try simp only [H.lay])
  generalize hO : Tr.put (Tr.put h.objs h.next (some (.cells z.cells h.next))) h.next (some (.cells clsL h.next)) = O
  have hrow : rowO O h.next = some clsL := by rw [← hO, rowO_put, if_pos rfl]; rfl
  generalize Tr.put h.fams h.next (some (h.next, h.next)) = FM
  (repeat refine AWp.seq ?_)
  refine AWp.block (AWp.loop (fun m st => ∃ k : Nat, k ≤ s.length ∧ m = s.length - k ∧ (∀ (i b : Nat), i < k → s[i]? = some b → isMoreN b = true) ∧ (0 < k → ∀ b, s[0]? = some b → isLetterN b = true) ∧
    Fr st [(0, .str s), (2, .bool false), (3, .ptr (some (h.next, 0))), (8, .int .i64 (s.length : Int)), (9, .int .i64 (k : Int))] 39 { objs := O, fams := FM, next := h.next + 1, low := h.next } []) s.length ?_ ?_)
  · exact ⟨0, by omega, by omega, fun i b hi => by omega, fun h => by omega, rfl, rfl, rfl, rfl, rfl, rfl, rfl, rfl, trivial⟩
  rintro m st ⟨k, hk, rfl, hall, hz0, hF⟩
  obtain ⟨f, rfl⟩ := hF.open
  simp only [updL]
  by_cases hlt : k < s.length
  · have c1 : decide ((k : Int) < (s.length : Int)) = true := by simp only [decide_eq_true_eq]; omega
    obtain ⟨b, hbk⟩ : ∃ b, s[k]? = some b := ⟨s[k], List.getElem?_eq_getElem hlt⟩
    have hb256 := hb b (List.mem_of_getElem? hbk)
    have hcell : clsL[b * 1]? = some (.int .u8 (clsN b : Int)) := by rw [Nat.mul_one]; exact clsL_get b hb256
    obtain ⟨sp1, sp2⟩ := cls_spec b hb256
    (repeat refine AWp.seq ?_); change AWp _ _ _ _ _; refine AWp.region ?_; (repeat (first | refine AOps.v rfl rfl rfl rfl rfl (by simp only [evS, cond_tt, cond_ff, absV, depthV, Nat.reduceEqDiff, Nat.reduceLT, ↓reduceIte, Option.map_some, Option.bind_some, List.toList_toArray, c1]; rfl) ?_ | refine AOps.s rfl rfl rfl ?_ | refine AOps.u rfl rfl rfl rfl (by simp only [evS, cond_tt, cond_ff, absV, depthV, Nat.reduceEqDiff, Nat.reduceLT, ↓reduceIte, Option.map_some, Option.bind_some, List.toList_toArray, c1]; rfl) ?_)); refine AOps.nil ?_
    (repeat refine AWp.seq ?_); change AWp _ _ _ _ _; refine AWp.yes (by rfl) (by rfl) (AWp.skip ?_)
    (repeat refine AWp.seq ?_)
    refine AWp.block ?_
    (repeat refine AWp.seq ?_); change AWp _ _ _ _ _; refine AWp.region ?_; (repeat (first | refine AOps.v rfl rfl rfl rfl rfl (by simp only [evS, cond_tt, cond_ff, absV, depthV, Nat.reduceEqDiff, Nat.reduceLT, ↓reduceIte, Option.map_some, Option.bind_some, List.toList_toArray]; rfl) ?_ | refine AOps.s rfl rfl rfl ?_ | refine AOps.u rfl rfl rfl rfl (by simp only [evS, cond_tt, cond_ff, absV, depthV, Nat.reduceEqDiff, Nat.reduceLT, ↓reduceIte, Option.map_some, Option.bind_some, List.toList_toArray]; rfl) ?_)); refine AOps.nil ?_
    (repeat refine AWp.seq ?_); change AWp _ _ _ _ _; refine AWp.region ?_; (repeat (first | refine AOps.v rfl rfl rfl rfl rfl (by simp only [evS, cond_tt, cond_ff, absV, depthV, Nat.reduceEqDiff, Nat.reduceLT, ↓reduceIte, Option.map_some, Option.bind_some, List.toList_toArray, load_one Tryz.agg5, iaddr_array Tryz.underlying160 Tryz.size5, len_str Tryz.underlying9, H.lay, rowO_put, rowA_cells, Nat.zero_add, Nat.add_zero, put_get, store_some, idx_str Tryz.underlying9 hbk, iaddr_array Tryz.underlying160 Tryz.size5 hb256, hrow, hcell]; rfl) ?_ | refine AOps.s rfl rfl rfl ?_ | refine AOps.u rfl rfl rfl rfl (by simp only [evS, cond_tt, cond_ff, absV, depthV, Nat.reduceEqDiff, Nat.reduceLT, ↓reduceIte, Option.map_some, Option.bind_some, List.toList_toArray, load_one Tryz.agg5, iaddr_array Tryz.underlying160 Tryz.size5, len_str Tryz.underlying9, H.lay, rowO_put, rowA_cells, Nat.zero_add, Nat.add_zero, put_get, store_some, idx_str Tryz.underlying9 hbk, iaddr_array Tryz.underlying160 Tryz.size5 hb256, hrow, hcell]; rfl) ?_)); refine AOps.nil ?_
    have round : isMoreN b = true → (k = 0 → isLetterN b = true) → ∃ k_1, k_1 < s.length - k ∧ ∃ k' : Nat, k' ≤ s.length ∧ k_1 = s.length - k' ∧ k' = k + 1 ∧ (∀ (i b : Nat), i < k' → s[i]? = some b → isMoreN b = true) ∧ (0 < k' → ∀ b, s[0]? = some b → isLetterN b = true) := by
      intro hm hl
      refine ⟨s.length - (k + 1), by omega, k + 1, hlt, rfl, rfl, fun i b' hi hb' => ?_, fun _ b' hb' => ?_⟩
      · by_cases e : i = k
        · subst e; rw [hbk] at hb'; cases hb'; exact hm
        · exact hall i b' (by omega) hb'
      · by_cases e : k = 0
        · subst e; rw [hbk] at hb'; cases hb'; exact hl rfl
        · exact hz0 (by omega) b' hb'
    have e3 : decide ((clsN b : Int) = 3) = decide (clsN b = 3) := dec_beq' (clsN b) 3
    have e4 : decide ((clsN b : Int) = 4) = decide (clsN b = 4) := dec_beq' (clsN b) 4
    have e5 : decide ((clsN b : Int) = 5) = decide (clsN b = 5) := dec_beq' (clsN b) 5
    have e0 : decide ((k : Int) = 0) = decide (k = 0) := dec_beq' k 0
    cases c3 : decide (clsN b = 3) <;> cases c0 : decide (k = 0) <;> cases c4 : decide (clsN b = 4) <;> cases c5 : decide (clsN b = 5)
    all_goals
      rw [c3] at e3 sp1 sp2; rw [c4] at e4 sp2; rw [c5] at e5 sp2; rw [c0] at e0
      (repeat refine AWp.seq ?_); change AWp _ _ _ _ _; refine AWp.region ?_; (repeat (first | refine AOps.v rfl rfl rfl rfl rfl (by simp only [evS, cond_tt, cond_ff, absV, depthV, Nat.reduceEqDiff, Nat.reduceLT, ↓reduceIte, Option.map_some, Option.bind_some, List.toList_toArray, e3, e4, e5, e0]; rfl) ?_ | refine AOps.s rfl rfl rfl ?_ | refine AOps.u rfl rfl rfl rfl (by simp only [evS, cond_tt, cond_ff, absV, depthV, Nat.reduceEqDiff, Nat.reduceLT, ↓reduceIte, Option.map_some, Option.bind_some, List.toList_toArray, e3, e4, e5, e0]; rfl) ?_)); refine AOps.nil ?_
      first
        | ((repeat refine AWp.seq ?_); change AWp _ _ _ _ _; refine AWp.yes (by rfl) (by rfl) ?_
           (repeat refine AWp.seq ?_); change AWp _ _ _ _ _; refine AWp.region ?_; (repeat (first | refine AOps.v rfl rfl rfl rfl rfl (by simp only [evS, cond_tt, cond_ff, absV, depthV, Nat.reduceEqDiff, Nat.reduceLT, ↓reduceIte, Option.map_some, Option.bind_some, List.toList_toArray]; rfl) ?_ | refine AOps.s rfl rfl rfl ?_ | refine AOps.u rfl rfl rfl rfl (by simp only [evS, cond_tt, cond_ff, absV, depthV, Nat.reduceEqDiff, Nat.reduceLT, ↓reduceIte, Option.map_some, Option.bind_some, List.toList_toArray]; rfl) ?_)); refine AOps.nil ?_
           refine AWp.ret ?_
           have hn : nameN s = false := by
             first
               | exact nameN_0 s b (by rw [← hbk, of_decide_eq_true c0]) sp1.symm
               | (cases hc : nameN s
                  · rfl
                  · have := nameN_all s hc k b hbk
                    rw [← sp2] at this; cases this)
           (try simp only [OutOf, Then, Round, NoGoto]); refine leaves_plain (by rfl) (by rfl) (fun _ => rfl) (by rfl) ⟨?_, rfl⟩; rw [hn]; rfl)
        | ((repeat refine AWp.seq ?_); change AWp _ _ _ _ _; refine AWp.no (by rfl) (by rfl) (AWp.skip ?_)
           obtain ⟨k1, g1, k', g2, g3, rfl, g4, g5⟩ := round sp2.symm (fun hk0 => by first | exact sp1.symm | (rw [hk0] at c0; cases c0))
           (repeat refine AWp.seq ?_); change AWp _ _ _ _ _; refine AWp.region ?_; (repeat (first | refine AOps.v rfl rfl rfl rfl rfl (by simp only [evS, cond_tt, cond_ff, absV, depthV, Nat.reduceEqDiff, Nat.reduceLT, ↓reduceIte, Option.map_some, Option.bind_some, List.toList_toArray, bin_add (show -9223372036854775808 ≤ (k : Int) + 1 ∧ (k : Int) + 1 ≤ 9223372036854775807 from ⟨by omega, by omega⟩)]; rfl) ?_ | refine AOps.s rfl rfl rfl ?_ | refine AOps.u rfl rfl rfl rfl (by simp only [evS, cond_tt, cond_ff, absV, depthV, Nat.reduceEqDiff, Nat.reduceLT, ↓reduceIte, Option.map_some, Option.bind_some, List.toList_toArray, bin_add (show -9223372036854775808 ≤ (k : Int) + 1 ∧ (k : Int) + 1 ≤ 9223372036854775807 from ⟨by omega, by omega⟩)]; rfl) ?_)); refine AOps.nil ?_
           exact ⟨k1, g1, k + 1, g2, g3, g4, g5, rfl, rfl, rfl, rfl, rfl, rfl, rfl, rfl, trivial⟩)
  · have hkk : k = s.length := by omega
    subst hkk
    have c1 : decide ((s.length : Int) < (s.length : Int)) = false := by simp
    (repeat refine AWp.seq ?_); change AWp _ _ _ _ _; refine AWp.region ?_; (repeat (first | refine AOps.v rfl rfl rfl rfl rfl (by simp only [evS, cond_tt, cond_ff, absV, depthV, Nat.reduceEqDiff, Nat.reduceLT, ↓reduceIte, Option.map_some, Option.bind_some, List.toList_toArray, c1]; rfl) ?_ | refine AOps.s rfl rfl rfl ?_ | refine AOps.u rfl rfl rfl rfl (by simp only [evS, cond_tt, cond_ff, absV, depthV, Nat.reduceEqDiff, Nat.reduceLT, ↓reduceIte, Option.map_some, Option.bind_some, List.toList_toArray, c1]; rfl) ?_)); refine AOps.nil ?_
    (repeat refine AWp.seq ?_); change AWp _ _ _ _ _; refine AWp.no (by rfl) (by rfl) ?_
    refine AWp.exit ?_
    cases hs0 : s with
    | nil =>
      (repeat refine AWp.seq ?_); change AWp _ _ _ _ _; refine AWp.region ?_; (repeat (first | refine AOps.v rfl rfl rfl rfl rfl (by simp only [evS, cond_tt, cond_ff, absV, depthV, Nat.reduceEqDiff, Nat.reduceLT, ↓reduceIte, Option.map_some, Option.bind_some, List.toList_toArray, load_one Tryz.agg5, iaddr_array Tryz.underlying160 Tryz.size5, len_str Tryz.underlying9, H.lay, rowO_put, rowA_cells, Nat.zero_add, Nat.add_zero, put_get, store_some]; rfl) ?_ | refine AOps.s rfl rfl rfl ?_ | refine AOps.u rfl rfl rfl rfl (by simp only [evS, cond_tt, cond_ff, absV, depthV, Nat.reduceEqDiff, Nat.reduceLT, ↓reduceIte, Option.map_some, Option.bind_some, List.toList_toArray, load_one Tryz.agg5, iaddr_array Tryz.underlying160 Tryz.size5, len_str Tryz.underlying9, H.lay, rowO_put, rowA_cells, Nat.zero_add, Nat.add_zero, put_get, store_some]; rfl) ?_)); refine AOps.nil ?_
      refine AWp.ret ?_
      (try simp only [OutOf, Then, Round, NoGoto]); refine leaves_plain (by rfl) (by rfl) (fun _ => rfl) (by rfl) ⟨?_, rfl⟩; rfl
    | cons a l =>
      have h0 : s[0]? = some a := by rw [hs0]; rfl
      have hn := nameN_of s (fun i b' hb' => hall i b' (List.getElem?_eq_some_iff.1 hb').1 hb') a h0
      rw [hz0 (by rw [hs0]; simp) a h0, Bool.and_true, hs0] at hn
      have ce : decide (a :: l = []) = false := rfl
      cases h24 : decide ((a :: l).length ≤ 24)
      · have c3 : decide (((a :: l).length : Int) ≤ 24) = false := by simp only [decide_eq_false_iff_not] at h24 ⊢; omega
        rw [h24] at hn
        (repeat refine AWp.seq ?_); change AWp _ _ _ _ _; refine AWp.region ?_; (repeat (first | refine AOps.v rfl rfl rfl rfl rfl (by simp only [evS, cond_tt, cond_ff, absV, depthV, Nat.reduceEqDiff, Nat.reduceLT, ↓reduceIte, Option.map_some, Option.bind_some, List.toList_toArray, load_one Tryz.agg5, iaddr_array Tryz.underlying160 Tryz.size5, len_str Tryz.underlying9, H.lay, rowO_put, rowA_cells, Nat.zero_add, Nat.add_zero, put_get, store_some, c3, ce]; rfl) ?_ | refine AOps.s rfl rfl rfl ?_ | refine AOps.u rfl rfl rfl rfl (by simp only [evS, cond_tt, cond_ff, absV, depthV, Nat.reduceEqDiff, Nat.reduceLT, ↓reduceIte, Option.map_some, Option.bind_some, List.toList_toArray, load_one Tryz.agg5, iaddr_array Tryz.underlying160 Tryz.size5, len_str Tryz.underlying9, H.lay, rowO_put, rowA_cells, Nat.zero_add, Nat.add_zero, put_get, store_some, c3, ce]; rfl) ?_)); refine AOps.nil ?_
        refine AWp.ret ?_
        (try simp only [OutOf, Then, Round, NoGoto]); refine leaves_plain (by rfl) (by rfl) (fun _ => rfl) (by rfl) ⟨?_, rfl⟩; rw [hn]; rfl
      · have c3 : decide (((a :: l).length : Int) ≤ 24) = true := by simp only [decide_eq_true_eq] at h24 ⊢; omega
        rw [h24] at hn
        (repeat refine AWp.seq ?_); change AWp _ _ _ _ _; refine AWp.region ?_; (repeat (first | refine AOps.v rfl rfl rfl rfl rfl (by simp only [evS, cond_tt, cond_ff, absV, depthV, Nat.reduceEqDiff, Nat.reduceLT, ↓reduceIte, Option.map_some, Option.bind_some, List.toList_toArray, load_one Tryz.agg5, iaddr_array Tryz.underlying160 Tryz.size5, len_str Tryz.underlying9, H.lay, rowO_put, rowA_cells, Nat.zero_add, Nat.add_zero, put_get, store_some, c3, ce]; rfl) ?_ | refine AOps.s rfl rfl rfl ?_ | refine AOps.u rfl rfl rfl rfl (by simp only [evS, cond_tt, cond_ff, absV, depthV, Nat.reduceEqDiff, Nat.reduceLT, ↓reduceIte, Option.map_some, Option.bind_some, List.toList_toArray, load_one Tryz.agg5, iaddr_array Tryz.underlying160 Tryz.size5, len_str Tryz.underlying9, H.lay, rowO_put, rowA_cells, Nat.zero_add, Nat.add_zero, put_get, store_some, c3, ce]; rfl) ?_)); refine AOps.nil ?_
        refine AWp.ret ?_
        (try simp only [OutOf, Then, Round, NoGoto]); refine leaves_plain (by rfl) (by rfl) (fun _ => rfl) (by rfl) ⟨?_, rfl⟩; rw [hn]; rfl

end Go.Proofs

/- Seat r1: which transfers are odd; slices.IndexFunc, slices.ContainsFunc over transfers. No conditions beyond those that each theorem states. -/
namespace Go.Proofs
open Go.Ev
set_option maxRecDepth 100000

def Xf.fits (t : Xf) : Prop := t.fr.length ≤ 1000000 ∧ t.to.length ≤ 1000000 ∧ (∀ b ∈ t.fr, b < 256) ∧ (∀ b ∈ t.to, b < 256)

set_option maxHeartbeats 1000000 in
theorem Tryz.odd (t : Xf) (hf : t.fits) (h : H) : ACalls Tryz.prog (.func 47) [.agg t.cells] h (fun v h' => v = .bool (!t.ok) ∧ h' = h) := by
  obtain ⟨h1, h2, b1, b2⟩ := hf
  unfold Xf.ok Xf.cells isAm
  refine ACalls.body (n := 30) Tryz.nogo Tryz.func47 rfl rfl ?_
  rw [argF1]
  have e5' : decide (t.am < 0) = !decide (0 ≤ t.am) := by by_cases h : 0 ≤ t.am <;> simp [h] <;> omega
  have e6' : decide (1000000000000 < t.am) = !decide (t.am ≤ 1000000000000) := by by_cases h : t.am ≤ 1000000000000 <;> simp [h] <;> omega
  cases e1 : nameN t.fr <;> cases e2 : nameN t.to <;> cases e3 : decide (t.fr = t.to) <;> cases e5 : decide (0 ≤ t.am) <;> cases e6 : decide (t.am ≤ 1000000000000)
  all_goals
    rw [e5] at e5'; rw [e6] at e6'
    (repeat refine AWp.seq ?_); change AWp _ _ _ _ _; refine AWp.region ?_; (repeat (first | refine AOps.v rfl rfl rfl rfl rfl (by simp only [evS, cond_tt, cond_ff, absV, depthV, Nat.reduceEqDiff, Nat.reduceLT, ↓reduceIte, Option.map_some, Option.bind_some, List.toList_toArray, load_agg Tryz.agg60 Tryz.size60, load_one Tryz.agg9, load_one Tryz.agg3, Tryz.fa60_0, Tryz.fa60_1, Tryz.fa60_2, len_slice Tryz.underlying56, len_str Tryz.underlying9, H.lay, rowO_put, rowA_cells, Nat.zero_add, Nat.add_zero]; rfl) ?_ | refine AOps.s rfl rfl rfl ?_ | refine AOps.u rfl rfl rfl rfl (by simp only [evS, cond_tt, cond_ff, absV, depthV, Nat.reduceEqDiff, Nat.reduceLT, ↓reduceIte, Option.map_some, Option.bind_some, List.toList_toArray, load_agg Tryz.agg60 Tryz.size60, load_one Tryz.agg9, load_one Tryz.agg3, Tryz.fa60_0, Tryz.fa60_1, Tryz.fa60_2, len_slice Tryz.underlying56, len_str Tryz.underlying9, H.lay, rowO_put, rowA_cells, Nat.zero_add, Nat.add_zero]; rfl) ?_)); refine AOps.nil ?_
    (repeat refine AWp.seq ?_); change AWp _ _ _ _ _; refine AWp.region ?_; (repeat (first | refine AOps.v rfl rfl rfl rfl rfl (by simp only [evS, cond_tt, cond_ff, absV, depthV, Nat.reduceEqDiff, Nat.reduceLT, ↓reduceIte, Option.map_some, Option.bind_some, List.toList_toArray, load_agg Tryz.agg60 Tryz.size60, load_one Tryz.agg9, load_one Tryz.agg3, Tryz.fa60_0, Tryz.fa60_1, Tryz.fa60_2, len_slice Tryz.underlying56, len_str Tryz.underlying9, H.lay, rowO_put, rowA_cells, Nat.zero_add, Nat.add_zero]; rfl) ?_ | refine AOps.s rfl rfl rfl ?_ | refine AOps.u rfl rfl rfl rfl (by simp only [evS, cond_tt, cond_ff, absV, depthV, Nat.reduceEqDiff, Nat.reduceLT, ↓reduceIte, Option.map_some, Option.bind_some, List.toList_toArray, load_agg Tryz.agg60 Tryz.size60, load_one Tryz.agg9, load_one Tryz.agg3, Tryz.fa60_0, Tryz.fa60_1, Tryz.fa60_2, len_slice Tryz.underlying56, len_str Tryz.underlying9, H.lay, rowO_put, rowA_cells, Nat.zero_add, Nat.add_zero]; rfl) ?_))
    refine AOps.c rfl rfl rfl rfl rfl (by simp only [callOf_val, callW_fn, evS, cond_tt, cond_ff, absV, depthV, Nat.reduceEqDiff, Nat.reduceLT, ↓reduceIte, Option.map_some, Option.bind_some, List.toList_toArray]; rfl) rfl (Tryz.lexName _ h1 b1 _) ?_; rintro _ _ ⟨rfl, rfl⟩
    rw [e1]
    (repeat (first | refine AOps.v rfl rfl rfl rfl rfl (by simp only [evS, cond_tt, cond_ff, absV, depthV, Nat.reduceEqDiff, Nat.reduceLT, ↓reduceIte, Option.map_some, Option.bind_some, List.toList_toArray, load_agg Tryz.agg60 Tryz.size60, load_one Tryz.agg9, load_one Tryz.agg3, Tryz.fa60_0, Tryz.fa60_1, Tryz.fa60_2, len_slice Tryz.underlying56, len_str Tryz.underlying9, H.lay, rowO_put, rowA_cells, Nat.zero_add, Nat.add_zero]; rfl) ?_ | refine AOps.s rfl rfl rfl ?_ | refine AOps.u rfl rfl rfl rfl (by simp only [evS, cond_tt, cond_ff, absV, depthV, Nat.reduceEqDiff, Nat.reduceLT, ↓reduceIte, Option.map_some, Option.bind_some, List.toList_toArray, load_agg Tryz.agg60 Tryz.size60, load_one Tryz.agg9, load_one Tryz.agg3, Tryz.fa60_0, Tryz.fa60_1, Tryz.fa60_2, len_slice Tryz.underlying56, len_str Tryz.underlying9, H.lay, rowO_put, rowA_cells, Nat.zero_add, Nat.add_zero]; rfl) ?_))
    try
      refine AOps.c rfl rfl rfl rfl rfl (by simp only [callOf_val, callW_fn, evS, cond_tt, cond_ff, absV, depthV, Nat.reduceEqDiff, Nat.reduceLT, ↓reduceIte, Option.map_some, Option.bind_some, List.toList_toArray]; rfl) rfl (Tryz.lexName _ h2 b2 _) ?_; rintro _ _ ⟨rfl, rfl⟩
      rw [e2]
      (repeat (first | refine AOps.v rfl rfl rfl rfl rfl (by simp only [evS, cond_tt, cond_ff, absV, depthV, Nat.reduceEqDiff, Nat.reduceLT, ↓reduceIte, Option.map_some, Option.bind_some, List.toList_toArray, load_agg Tryz.agg60 Tryz.size60, load_one Tryz.agg9, load_one Tryz.agg3, Tryz.fa60_0, Tryz.fa60_1, Tryz.fa60_2, len_slice Tryz.underlying56, len_str Tryz.underlying9, H.lay, rowO_put, rowA_cells, Nat.zero_add, Nat.add_zero, e3, e5', e6']; rfl) ?_ | refine AOps.s rfl rfl rfl ?_ | refine AOps.u rfl rfl rfl rfl (by simp only [evS, cond_tt, cond_ff, absV, depthV, Nat.reduceEqDiff, Nat.reduceLT, ↓reduceIte, Option.map_some, Option.bind_some, List.toList_toArray, load_agg Tryz.agg60 Tryz.size60, load_one Tryz.agg9, load_one Tryz.agg3, Tryz.fa60_0, Tryz.fa60_1, Tryz.fa60_2, len_slice Tryz.underlying56, len_str Tryz.underlying9, H.lay, rowO_put, rowA_cells, Nat.zero_add, Nat.add_zero, e3, e5', e6']; rfl) ?_))
    refine AOps.nil (AWp.ret ?_)
    (try simp only [OutOf, Then, Round, NoGoto]); refine leaves_plain (by rfl) (by rfl) (fun _ => rfl) (by rfl) ⟨?_, rfl⟩; rfl

/-- The index of the first that is such; -1 if there is none. -/
def idxI {α : Type} (p : α → Bool) (l : List α) : Int := match l.findIdx? p with
  | some i => (i : Int)
  | none => -1

theorem idxI_at {α : Type} {p : α → Bool} {l : List α} {i : Nat} {x : α} (hx : l[i]? = some x) (hp : p x = true) (hb : ∀ (j : Nat) (y : α), j < i → l[j]? = some y → p y = false) : idxI p l = (i : Int) := by
  unfold idxI
  have : l.findIdx? p = some i := by
    rw [List.findIdx?_eq_some_iff_getElem]
    refine ⟨idx_lt hx, ?_, fun j hj => ?_⟩
    · rw [(List.getElem?_eq_some_iff.1 hx).2]; exact hp
    · have hjl : j < l.length := by have := idx_lt hx; omega
      have := hb j l[j] hj (List.getElem?_eq_getElem hjl)
      simp [this]
  rw [this]

theorem idxI_none {α : Type} {p : α → Bool} {l : List α} (hb : ∀ (j : Nat) (y : α), j < l.length → l[j]? = some y → p y = false) : idxI p l = -1 := by
  unfold idxI
  have : l.findIdx? p = none := by
    rw [List.findIdx?_eq_none_iff]
    intro x hx
    obtain ⟨i, hi⟩ := List.mem_iff_getElem?.1 hx
    exact hb i x (idx_lt hi) hi
  rw [this]

theorem idxI_ge {α : Type} (p : α → Bool) (l : List α) : decide (0 ≤ idxI p l) = l.any p := by
  unfold idxI
  cases h : l.findIdx? p with
  | none =>
    rw [List.findIdx?_eq_none_iff] at h
    have : l.any p = false := by
      rw [List.any_eq_false]; intro x hx; rw [h x hx]; simp
    rw [this]; rfl
  | some i =>
    rw [List.findIdx?_eq_some_iff_getElem] at h
    obtain ⟨hi, hp, _⟩ := h
    have : l.any p = true := List.any_eq_true.2 ⟨l[i], List.getElem_mem hi, hp⟩
    rw [this]; simp

set_option maxHeartbeats 400000 in
theorem Tryz.indexX (ts : List Xf) (p : Xf → Bool) (g : FuncId) (hg : ∀ t ∈ ts, ∀ h, ACalls Tryz.prog (.func g) [.agg t.cells] h (fun v h' => v = .bool (p t) ∧ h' = h)) (v : AV) (h : H) (hv : RdX h v ts) (hl : ts.length ≤ 1000000) :
    ACalls Tryz.prog (.func 87) [v, .fn (.func g) [] []] h (fun v h' => v = .int .i64 (idxI p ts) ∧ h' = h) := by
  refine ACalls.body (n := 19) Tryz.nogo Tryz.func87 rfl rfl ?_
  rw [argF2]
  obtain ⟨o, e, c, rfl⟩ := hv.len
  rw [List.length_map] at hv ⊢
  (repeat refine AWp.seq ?_); change AWp _ _ _ _ _; refine AWp.region ?_; (repeat (first | refine AOps.v rfl rfl rfl rfl rfl (by simp only [evS, cond_tt, cond_ff, absV, depthV, Nat.reduceEqDiff, Nat.reduceLT, ↓reduceIte, Option.map_some, Option.bind_some, List.toList_toArray]; rfl) ?_ | refine AOps.s rfl rfl rfl ?_ | refine AOps.u rfl rfl rfl rfl (by simp only [evS, cond_tt, cond_ff, absV, depthV, Nat.reduceEqDiff, Nat.reduceLT, ↓reduceIte, Option.map_some, Option.bind_some, List.toList_toArray]; rfl) ?_)); refine AOps.nil ?_
  (repeat refine AWp.seq ?_); change AWp _ _ _ _ _; refine AWp.region ?_; (repeat (first | refine AOps.v rfl rfl rfl rfl rfl (by simp only [evS, cond_tt, cond_ff, absV, depthV, Nat.reduceEqDiff, Nat.reduceLT, ↓reduceIte, Option.map_some, Option.bind_some, List.toList_toArray, load_agg Tryz.agg60 Tryz.size60, load_one Tryz.agg9, load_one Tryz.agg3, Tryz.fa60_0, Tryz.fa60_1, Tryz.fa60_2, len_slice Tryz.underlying56, len_str Tryz.underlying9, H.lay, rowO_put, rowA_cells, Nat.zero_add, Nat.add_zero]; rfl) ?_ | refine AOps.s rfl rfl rfl ?_ | refine AOps.u rfl rfl rfl rfl (by simp only [evS, cond_tt, cond_ff, absV, depthV, Nat.reduceEqDiff, Nat.reduceLT, ↓reduceIte, Option.map_some, Option.bind_some, List.toList_toArray, load_agg Tryz.agg60 Tryz.size60, load_one Tryz.agg9, load_one Tryz.agg3, Tryz.fa60_0, Tryz.fa60_1, Tryz.fa60_2, len_slice Tryz.underlying56, len_str Tryz.underlying9, H.lay, rowO_put, rowA_cells, Nat.zero_add, Nat.add_zero]; rfl) ?_)); refine AOps.nil ?_
  refine AWp.block (AWp.loop (fun m st => ∃ k : Nat, k ≤ ts.length ∧ m = ts.length - k ∧ (∀ (i : Nat) (t : Xf), i < k → ts[i]? = some t → p t = false) ∧
    Fr st [(0, .slice o ts.length e c), (1, .fn (.func g) [] []), (7, .int .i64 (ts.length : Int)), (8, .int .i64 (k : Int))] 19 { h with low := h.next } []) ts.length ?_ ?_)
  · exact ⟨0, by omega, by omega, fun i b hi => by omega, rfl, rfl, rfl, rfl, rfl, rfl, rfl, trivial⟩
  rintro m st ⟨k, hk, rfl, hall, hF⟩
  obtain ⟨f, rfl⟩ := hF.open
  simp only [updL]
  by_cases hlt : k < ts.length
  · have c1 : decide ((k : Int) < (ts.length : Int)) = true := by simp only [decide_eq_true_eq]; omega
    obtain ⟨t, ht⟩ : ∃ t, ts[k]? = some t := ⟨ts[k], List.getElem?_eq_getElem hlt⟩
    obtain ⟨id, off, cap, cs, hv', hid, hrow, hlen, hch, hcell⟩ := hv.open (i := k) (by rw [List.length_map]; exact hlt)
    rw [List.length_map] at hv'
    cases hv'
    have hck := hch k _ (rows_get ts ht)
    (repeat refine AWp.seq ?_); change AWp _ _ _ _ _; refine AWp.region ?_; (repeat (first | refine AOps.v rfl rfl rfl rfl rfl (by simp only [evS, cond_tt, cond_ff, absV, depthV, Nat.reduceEqDiff, Nat.reduceLT, ↓reduceIte, Option.map_some, Option.bind_some, List.toList_toArray, c1]; rfl) ?_ | refine AOps.s rfl rfl rfl ?_ | refine AOps.u rfl rfl rfl rfl (by simp only [evS, cond_tt, cond_ff, absV, depthV, Nat.reduceEqDiff, Nat.reduceLT, ↓reduceIte, Option.map_some, Option.bind_some, List.toList_toArray, c1]; rfl) ?_)); refine AOps.nil ?_
    (repeat refine AWp.seq ?_); change AWp _ _ _ _ _; refine AWp.yes (by rfl) (by rfl) (AWp.skip ?_)
    (repeat refine AWp.seq ?_)
    refine AWp.block ?_
    (repeat refine AWp.seq ?_); change AWp _ _ _ _ _; refine AWp.region ?_; (repeat (first | refine AOps.v rfl rfl rfl rfl rfl (by simp only [evS, cond_tt, cond_ff, absV, depthV, Nat.reduceEqDiff, Nat.reduceLT, ↓reduceIte, Option.map_some, Option.bind_some, List.toList_toArray]; rfl) ?_ | refine AOps.s rfl rfl rfl ?_ | refine AOps.u rfl rfl rfl rfl (by simp only [evS, cond_tt, cond_ff, absV, depthV, Nat.reduceEqDiff, Nat.reduceLT, ↓reduceIte, Option.map_some, Option.bind_some, List.toList_toArray]; rfl) ?_)); refine AOps.nil ?_
    (repeat refine AWp.seq ?_); change AWp _ _ _ _ _; refine AWp.region ?_; (repeat (first | refine AOps.v rfl rfl rfl rfl rfl (by simp only [evS, cond_tt, cond_ff, absV, depthV, Nat.reduceEqDiff, Nat.reduceLT, ↓reduceIte, Option.map_some, Option.bind_some, List.toList_toArray, load_agg Tryz.agg60 Tryz.size60, load_one Tryz.agg9, load_one Tryz.agg3, Tryz.fa60_0, Tryz.fa60_1, Tryz.fa60_2, len_slice Tryz.underlying56, len_str Tryz.underlying9, H.lay, rowO_put, rowA_cells, Nat.zero_add, Nat.add_zero, iaddr_slice Tryz.underlying56 Tryz.size60 hlt, hrow, hck]; rfl) ?_ | refine AOps.s rfl rfl rfl ?_ | refine AOps.u rfl rfl rfl rfl (by simp only [evS, cond_tt, cond_ff, absV, depthV, Nat.reduceEqDiff, Nat.reduceLT, ↓reduceIte, Option.map_some, Option.bind_some, List.toList_toArray, load_agg Tryz.agg60 Tryz.size60, load_one Tryz.agg9, load_one Tryz.agg3, Tryz.fa60_0, Tryz.fa60_1, Tryz.fa60_2, len_slice Tryz.underlying56, len_str Tryz.underlying9, H.lay, rowO_put, rowA_cells, Nat.zero_add, Nat.add_zero, iaddr_slice Tryz.underlying56 Tryz.size60 hlt, hrow, hck]; rfl) ?_))
    refine AOps.c rfl rfl rfl rfl rfl (by simp only [callOf_val, callW_fn, evS, cond_tt, cond_ff, absV, depthV, Nat.reduceEqDiff, Nat.reduceLT, ↓reduceIte, Option.map_some, Option.bind_some, List.toList_toArray]; rfl) rfl (hg t (List.mem_of_getElem? ht) _) ?_; rintro _ _ ⟨rfl, rfl⟩
    refine AOps.nil ?_
    cases hp : p t
    · (repeat refine AWp.seq ?_); change AWp _ _ _ _ _; refine AWp.no (by rfl) (by rfl) (AWp.skip ?_)
      (repeat refine AWp.seq ?_); change AWp _ _ _ _ _; refine AWp.region ?_; (repeat (first | refine AOps.v rfl rfl rfl rfl rfl (by simp only [evS, cond_tt, cond_ff, absV, depthV, Nat.reduceEqDiff, Nat.reduceLT, ↓reduceIte, Option.map_some, Option.bind_some, List.toList_toArray, bin_add (show -9223372036854775808 ≤ (k : Int) + 1 ∧ (k : Int) + 1 ≤ 9223372036854775807 from ⟨by omega, by omega⟩)]; rfl) ?_ | refine AOps.s rfl rfl rfl ?_ | refine AOps.u rfl rfl rfl rfl (by simp only [evS, cond_tt, cond_ff, absV, depthV, Nat.reduceEqDiff, Nat.reduceLT, ↓reduceIte, Option.map_some, Option.bind_some, List.toList_toArray, bin_add (show -9223372036854775808 ≤ (k : Int) + 1 ∧ (k : Int) + 1 ≤ 9223372036854775807 from ⟨by omega, by omega⟩)]; rfl) ?_)); refine AOps.nil ?_
      refine ⟨ts.length - (k + 1), by omega, k + 1, hlt, rfl, fun i t' hi ht' => ?_, rfl, rfl, rfl, rfl, rfl, rfl, rfl, trivial⟩
      by_cases ee : i = k
      · subst ee; rw [ht] at ht'; cases ht'; exact hp
      · exact hall i t' (by omega) ht'
    · (repeat refine AWp.seq ?_); change AWp _ _ _ _ _; refine AWp.yes (by rfl) (by rfl) ?_
      (repeat refine AWp.seq ?_); change AWp _ _ _ _ _; refine AWp.region ?_; (repeat (first | refine AOps.v rfl rfl rfl rfl rfl (by simp only [evS, cond_tt, cond_ff, absV, depthV, Nat.reduceEqDiff, Nat.reduceLT, ↓reduceIte, Option.map_some, Option.bind_some, List.toList_toArray]; rfl) ?_ | refine AOps.s rfl rfl rfl ?_ | refine AOps.u rfl rfl rfl rfl (by simp only [evS, cond_tt, cond_ff, absV, depthV, Nat.reduceEqDiff, Nat.reduceLT, ↓reduceIte, Option.map_some, Option.bind_some, List.toList_toArray]; rfl) ?_)); refine AOps.nil ?_
      refine AWp.ret ?_
      (try simp only [OutOf, Then, Round, NoGoto]); refine leaves_plain (by rfl) (by rfl) (fun _ => rfl) (by rfl) ⟨?_, rfl⟩; rw [idxI_at ht hp hall]; rfl
  · have hkk : k = ts.length := by omega
    subst hkk
    have c1 : decide ((ts.length : Int) < (ts.length : Int)) = false := by simp
    (repeat refine AWp.seq ?_); change AWp _ _ _ _ _; refine AWp.region ?_; (repeat (first | refine AOps.v rfl rfl rfl rfl rfl (by simp only [evS, cond_tt, cond_ff, absV, depthV, Nat.reduceEqDiff, Nat.reduceLT, ↓reduceIte, Option.map_some, Option.bind_some, List.toList_toArray, c1]; rfl) ?_ | refine AOps.s rfl rfl rfl ?_ | refine AOps.u rfl rfl rfl rfl (by simp only [evS, cond_tt, cond_ff, absV, depthV, Nat.reduceEqDiff, Nat.reduceLT, ↓reduceIte, Option.map_some, Option.bind_some, List.toList_toArray, c1]; rfl) ?_)); refine AOps.nil ?_
    (repeat refine AWp.seq ?_); change AWp _ _ _ _ _; refine AWp.no (by rfl) (by rfl) ?_
    refine AWp.exit ?_
    (repeat refine AWp.seq ?_); change AWp _ _ _ _ _; refine AWp.region ?_; (repeat (first | refine AOps.v rfl rfl rfl rfl rfl (by simp only [evS, cond_tt, cond_ff, absV, depthV, Nat.reduceEqDiff, Nat.reduceLT, ↓reduceIte, Option.map_some, Option.bind_some, List.toList_toArray]; rfl) ?_ | refine AOps.s rfl rfl rfl ?_ | refine AOps.u rfl rfl rfl rfl (by simp only [evS, cond_tt, cond_ff, absV, depthV, Nat.reduceEqDiff, Nat.reduceLT, ↓reduceIte, Option.map_some, Option.bind_some, List.toList_toArray]; rfl) ?_)); refine AOps.nil ?_
    refine AWp.ret ?_
    (try simp only [OutOf, Then, Round, NoGoto]); refine leaves_plain (by rfl) (by rfl) (fun _ => rfl) (by rfl) ⟨?_, rfl⟩; rw [idxI_none hall]; rfl

set_option maxHeartbeats 400000 in
theorem Tryz.containsX (ts : List Xf) (p : Xf → Bool) (g : FuncId) (hg : ∀ t ∈ ts, ∀ h, ACalls Tryz.prog (.func g) [.agg t.cells] h (fun v h' => v = .bool (p t) ∧ h' = h)) (v : AV) (h : H) (hv : RdX h v ts) (hl : ts.length ≤ 1000000) :
    ACalls Tryz.prog (.func 49) [v, .fn (.func g) [] []] h (fun v h' => v = .bool (ts.any p) ∧ h' = h) := by
  refine ACalls.body (n := 9) Tryz.nogo Tryz.func49 rfl rfl ?_
  rw [argF2]
  (repeat refine AWp.seq ?_); change AWp _ _ _ _ _; refine AWp.region ?_; (repeat (first | refine AOps.v rfl rfl rfl rfl rfl (by simp only [evS, cond_tt, cond_ff, absV, depthV, Nat.reduceEqDiff, Nat.reduceLT, ↓reduceIte, Option.map_some, Option.bind_some, List.toList_toArray]; rfl) ?_ | refine AOps.s rfl rfl rfl ?_ | refine AOps.u rfl rfl rfl rfl (by simp only [evS, cond_tt, cond_ff, absV, depthV, Nat.reduceEqDiff, Nat.reduceLT, ↓reduceIte, Option.map_some, Option.bind_some, List.toList_toArray]; rfl) ?_)); refine AOps.nil ?_
  (repeat refine AWp.seq ?_); change AWp _ _ _ _ _; refine AWp.region ?_; (repeat (first | refine AOps.v rfl rfl rfl rfl rfl (by simp only [evS, cond_tt, cond_ff, absV, depthV, Nat.reduceEqDiff, Nat.reduceLT, ↓reduceIte, Option.map_some, Option.bind_some, List.toList_toArray]; rfl) ?_ | refine AOps.s rfl rfl rfl ?_ | refine AOps.u rfl rfl rfl rfl (by simp only [evS, cond_tt, cond_ff, absV, depthV, Nat.reduceEqDiff, Nat.reduceLT, ↓reduceIte, Option.map_some, Option.bind_some, List.toList_toArray]; rfl) ?_))
  refine AOps.c rfl rfl rfl rfl rfl (by simp only [callOf_val, callW_fn, evS, cond_tt, cond_ff, absV, depthV, Nat.reduceEqDiff, Nat.reduceLT, ↓reduceIte, Option.map_some, Option.bind_some, List.toList_toArray]; rfl) rfl (Tryz.indexX ts p g hg v ⟨h.objs, h.fams, h.next, h.next⟩ ⟨hv.wide, hv.at'⟩ hl) ?_; rintro _ _ ⟨rfl, rfl⟩
  have hge := idxI_ge p ts
  (repeat (first | refine AOps.v rfl rfl rfl rfl rfl (by simp only [evS, cond_tt, cond_ff, absV, depthV, Nat.reduceEqDiff, Nat.reduceLT, ↓reduceIte, Option.map_some, Option.bind_some, List.toList_toArray, hge]; rfl) ?_ | refine AOps.s rfl rfl rfl ?_ | refine AOps.u rfl rfl rfl rfl (by simp only [evS, cond_tt, cond_ff, absV, depthV, Nat.reduceEqDiff, Nat.reduceLT, ↓reduceIte, Option.map_some, Option.bind_some, List.toList_toArray, hge]; rfl) ?_))
  refine AOps.nil (AWp.ret ?_)
  (try simp only [OutOf, Then, Round, NoGoto]); refine leaves_plain (by rfl) (by rfl) (fun _ => rfl) (by rfl) ⟨?_, rfl⟩; rfl

end Go.Proofs

/- Seat r1: sums of transfers by pairs. No conditions beyond those that each theorem states. -/
namespace Go.Proofs
open Go.Ev
set_option maxRecDepth 100000

abbrev Pr := List Nat × List Nat
def Pr.av (p : Pr) : AV := .agg [.str p.1, .str p.2]
def intAV (n : Int) : AV := .int .i64 n

theorem Tryz.zero3 : zeroA Tryz.prog 3 = some (.int .i64 0) := by kernel_rfl
theorem Tryz.stood125 : Tryz.prog.stoodInHeld 125 = false := by kernel_rfl

theorem eq_pair (a b : Pr) : eqA Tryz.prog 4 125 a.av b.av = some (decide (a = b)) := by
  obtain ⟨a1, a2⟩ := a
  obtain ⟨b1, b2⟩ := b
  simp only [eqA, Pr.av, Tryz.underlying125, Tryz.stood125, cond_ff, eqFields, partA, Tryz.agg9, Tryz.underlying9, List.getElem?_cons_zero, List.getElem?_cons_succ, eqL_eq]
  by_cases h1 : a1 = b1 <;> by_cases h2 : a2 = b2 <;> simp [h1, h2]

theorem Tryz.keysP : Keys Tryz.prog 125 Pr.av where
  eq := eq_pair
  ck := fun a => by
    simp only [keyA, ckA, Pr.av, Tryz.underlying125, ckFields, partA, Tryz.agg9, Tryz.underlying9, List.getElem?_cons_zero, List.getElem?_cons_succ]
    rfl
  st := fun a => by
    simp only [stays, Pr.av, plainK, eqTop, all2, eqL_eq, decide_true, Bool.and_true]
    rfl

def Xf.key (t : Xf) : Pr := (t.fr, t.to)
def addL (times : Int) (ml : List (Pr × Int)) (ts : List Xf) : List (Pr × Int) := ts.foldl (fun ml t => putM t.key (getM 0 t.key ml + times * t.am) ml) ml

theorem eqTop_pr (n : Nat) (p : Pr) : eqTop (n + 2) p.av p.av = true := by
  simp only [Pr.av, eqTop, all2, eqL_eq, decide_true, Bool.and_self]

theorem Tryz.zero60 : zeroA Tryz.prog 60 = some (.agg [.str [], .str [], .int .i64 0]) := by kernel_rfl
theorem build125 (a b : List Nat) : buildA Tryz.prog 125 [(0, .str a), (1, .str b)] = some (Pr.av (a, b)) := by kernel_rfl

theorem take_snoc {α : Type} {l : List α} {k : Nat} {x : α} (h : l[k]? = some x) : l.take (k + 1) = l.take k ++ [x] := by
  rw [List.take_add_one, h]; rfl

theorem addL_snoc (times : Int) (ml : List (Pr × Int)) (ts : List Xf) (t : Xf) : addL times ml (ts ++ [t]) = putM t.key (getM 0 t.key (addL times ml ts) + times * t.am) (addL times ml ts) := by
  unfold addL; rw [List.foldl_append]; rfl

def bndM (B : Int) (ml : List (Pr × Int)) : Prop := ∀ k, -B ≤ getM 0 k ml ∧ getM 0 k ml ≤ B

theorem addL_bnd {times : Int} (ht : times = 1 ∨ times = -1) {B : Int} {ml : List (Pr × Int)} (hB : bndM B ml) : ∀ (n : Nat) (ts : List Xf), ts.length = n → (∀ t ∈ ts, 0 ≤ t.am ∧ t.am ≤ 1000000000000) → bndM (B + n * 1000000000000) (addL times ml ts)
  | 0, ts, hn, _ => by
    have : ts = [] := List.length_eq_zero_iff.1 hn
    subst this
    intro k; have := hB k; unfold addL; simp only [List.foldl_nil]; omega
  | n + 1, ts, hn, ha => by
    rcases List.eq_nil_or_concat ts with rfl | ⟨l, t, rfl⟩
    · simp at hn
    · rw [List.concat_eq_append] at *
      have hl : l.length = n := by simpa using hn
      have ih := addL_bnd ht hB n l hl fun t ht => ha t (List.mem_append_left _ ht)
      have hat := ha t (by simp)
      intro k
      rw [addL_snoc, getM_put]
      have h1 := ih k
      have h2 := ih t.key
      split
      · rcases ht with rfl | rfl <;> omega
      · omega

set_option maxHeartbeats 2000000 in
theorem Tryz.add (times : Int) (htm : times = 1 ∨ times = -1) (ts : List Xf) (ham : ∀ t ∈ ts, 0 ≤ t.am ∧ t.am ≤ 1000000000000) (hlen : ts.length ≤ 1000) (v lv : AV) (id : Nat) (ml : List (Pr × Int)) (h : H)
    (hm : MapAt Pr.av intAV h.objs id ml) (hid : id < h.next) (hB : bndM 1000000000000000 ml) (hv : RdX h v ts) (hlv : RdS h lv 1 [[v]]) :
    ACalls Tryz.prog (.func 50) [.map (some id), .int .i64 times, lv] h (fun r h' => MapAt Pr.av intAV h'.objs id (addL times ml ts) ∧ Upto h h' id ∧ ∀ L, h.low = L → L ≤ id → L ≤ h.next → h'.low = L) := by
  have hno := rowO_map hm
  refine ACalls.body (n := 38) Tryz.nogo Tryz.func50 rfl rfl ?_
  rw [argF3]
  obtain ⟨lid, loff, lcap, lcs, rfl, hlid, hlrow, hll, hlch, hlcell⟩ := hlv.open (i := 0) (by simp)
  have hl0 := hlcell 0 [v] rfl 0 (by omega)
  simp only [Nat.zero_mul, Nat.add_zero, List.getElem?_cons_zero] at hl0
  obtain ⟨o, e, c, rfl⟩ := hv.len
  rw [List.length_map] at hv hl0
  simp only [List.length_cons, List.length_nil, Nat.zero_add, List.length_map] at hll ⊢
  (repeat refine AWp.seq ?_); change AWp _ _ _ _ _; refine AWp.region ?_; (repeat (first | refine AOps.v rfl rfl rfl rfl rfl (by simp only [evS, cond_tt, cond_ff, absV, depthV, Nat.reduceEqDiff, Nat.reduceLT, ↓reduceIte, Option.map_some, Option.bind_some, List.toList_toArray, load_agg Tryz.agg60 Tryz.size60, load_one Tryz.agg9, load_one Tryz.agg3, load_one Tryz.agg56, Tryz.fa60_0, Tryz.fa60_1, Tryz.fa60_2, len_slice Tryz.underlying56, len_slice Tryz.underlying163, H.lay, rowO_put, rowA_cells, Nat.zero_add, Nat.add_zero, ↓reduceIte]; rfl) ?_ | refine AOps.s rfl rfl rfl ?_ | refine AOps.u rfl rfl rfl rfl (by simp only [evS, cond_tt, cond_ff, absV, depthV, Nat.reduceEqDiff, Nat.reduceLT, ↓reduceIte, Option.map_some, Option.bind_some, List.toList_toArray, load_agg Tryz.agg60 Tryz.size60, load_one Tryz.agg9, load_one Tryz.agg3, load_one Tryz.agg56, Tryz.fa60_0, Tryz.fa60_1, Tryz.fa60_2, len_slice Tryz.underlying56, len_slice Tryz.underlying163, H.lay, rowO_put, rowA_cells, Nat.zero_add, Nat.add_zero, ↓reduceIte]; rfl) ?_)); refine AOps.nil ?_
  refine AWp.block (AWp.loop (fun m st => ∃ k : Nat, k ≤ 1 ∧ m = 1 - k ∧ ∃ hk : H, MapAt Pr.av intAV hk.objs id (if k = 0 then ml else addL times ml ts) ∧ Upto h hk id ∧ (hk.low = h.next ∨ hk.low = id) ∧
    Fr st [(0, .map (some id)), (1, .int .i64 times), (10, .slice (some (lid, loff)) 1 1 lcap), (11, .int .i64 1), (12, .int .i64 (k : Int))] 38 hk []) 1 ?_ ?_)
  · exact ⟨0, by omega, by omega, { h with low := h.next }, hm, ⟨Nat.le_refl _, fun _ _ _ => rfl, fun _ _ => rfl⟩, .inl rfl, rfl, rfl, rfl, rfl, rfl, rfl, rfl, rfl, trivial⟩
  rintro m st ⟨k, hk1, rfl, hk, hmk, hup, hlow, hF⟩
  obtain ⟨f, rfl⟩ := hF.open
  simp only [updL]
  obtain ⟨ko, kf, kn, kl⟩ := hk
  by_cases hk0 : k = 0
  · subst hk0
    simp only [if_true] at hmk
    have hlrow' := hup.row hlid hlrow hno
    simp only at hlrow' hmk hlow
    have c1 : decide (((0 : Nat) : Int) < (1 : Int)) = true := rfl
    (repeat refine AWp.seq ?_); change AWp _ _ _ _ _; refine AWp.region ?_; (repeat (first | refine AOps.v rfl rfl rfl rfl rfl (by simp only [evS, cond_tt, cond_ff, absV, depthV, Nat.reduceEqDiff, Nat.reduceLT, ↓reduceIte, Option.map_some, Option.bind_some, List.toList_toArray, c1]; rfl) ?_ | refine AOps.s rfl rfl rfl ?_ | refine AOps.u rfl rfl rfl rfl (by simp only [evS, cond_tt, cond_ff, absV, depthV, Nat.reduceEqDiff, Nat.reduceLT, ↓reduceIte, Option.map_some, Option.bind_some, List.toList_toArray, c1]; rfl) ?_)); refine AOps.nil ?_
    (repeat refine AWp.seq ?_); change AWp _ _ _ _ _; refine AWp.yes (by rfl) (by rfl) (AWp.skip ?_)
    (repeat refine AWp.seq ?_)
    refine AWp.block ?_
    (repeat refine AWp.seq ?_); change AWp _ _ _ _ _; refine AWp.region ?_; (repeat (first | refine AOps.v rfl rfl rfl rfl rfl (by simp only [evS, cond_tt, cond_ff, absV, depthV, Nat.reduceEqDiff, Nat.reduceLT, ↓reduceIte, Option.map_some, Option.bind_some, List.toList_toArray, load_agg Tryz.agg60 Tryz.size60, load_one Tryz.agg9, load_one Tryz.agg3, load_one Tryz.agg56, Tryz.fa60_0, Tryz.fa60_1, Tryz.fa60_2, len_slice Tryz.underlying56, len_slice Tryz.underlying163, H.lay, rowO_put, rowA_cells, Nat.zero_add, Nat.add_zero, ↓reduceIte, iaddr_slice Tryz.underlying163 Tryz.size56 (show 0 < 1 from Nat.zero_lt_one), hlrow', hl0, Nat.zero_mul]; rfl) ?_ | refine AOps.s rfl rfl rfl ?_ | refine AOps.u rfl rfl rfl rfl (by simp only [evS, cond_tt, cond_ff, absV, depthV, Nat.reduceEqDiff, Nat.reduceLT, ↓reduceIte, Option.map_some, Option.bind_some, List.toList_toArray, load_agg Tryz.agg60 Tryz.size60, load_one Tryz.agg9, load_one Tryz.agg3, load_one Tryz.agg56, Tryz.fa60_0, Tryz.fa60_1, Tryz.fa60_2, len_slice Tryz.underlying56, len_slice Tryz.underlying163, H.lay, rowO_put, rowA_cells, Nat.zero_add, Nat.add_zero, ↓reduceIte, iaddr_slice Tryz.underlying163 Tryz.size56 (show 0 < 1 from Nat.zero_lt_one), hlrow', hl0, Nat.zero_mul]; rfl) ?_)); refine AOps.nil ?_
    (repeat refine AWp.seq ?_); change AWp _ _ _ _ _; refine AWp.region ?_; (repeat (first | refine AOps.v rfl rfl rfl rfl rfl (by simp only [evS, cond_tt, cond_ff, absV, depthV, Nat.reduceEqDiff, Nat.reduceLT, ↓reduceIte, Option.map_some, Option.bind_some, List.toList_toArray, load_agg Tryz.agg60 Tryz.size60, load_one Tryz.agg9, load_one Tryz.agg3, load_one Tryz.agg56, Tryz.fa60_0, Tryz.fa60_1, Tryz.fa60_2, len_slice Tryz.underlying56, len_slice Tryz.underlying163, H.lay, rowO_put, rowA_cells, Nat.zero_add, Nat.add_zero, ↓reduceIte]; rfl) ?_ | refine AOps.s rfl rfl rfl ?_ | refine AOps.u rfl rfl rfl rfl (by simp only [evS, cond_tt, cond_ff, absV, depthV, Nat.reduceEqDiff, Nat.reduceLT, ↓reduceIte, Option.map_some, Option.bind_some, List.toList_toArray, load_agg Tryz.agg60 Tryz.size60, load_one Tryz.agg9, load_one Tryz.agg3, load_one Tryz.agg56, Tryz.fa60_0, Tryz.fa60_1, Tryz.fa60_2, len_slice Tryz.underlying56, len_slice Tryz.underlying163, H.lay, rowO_put, rowA_cells, Nat.zero_add, Nat.add_zero, ↓reduceIte]; rfl) ?_)); refine AOps.nil ?_
    refine AWp.block (AWp.loop (fun m st => ∃ j : Nat, j ≤ ts.length ∧ m = ts.length - j ∧ ∃ hj : H, MapAt Pr.av intAV hj.objs id (addL times ml (ts.take j)) ∧ Upto h hj id ∧ (hj.low = h.next ∨ hj.low = id) ∧
      Fr st [(0, .map (some id)), (1, .int .i64 times), (10, .slice (some (lid, loff)) 1 1 lcap), (11, .int .i64 1), (12, .int .i64 ((0 : Nat) : Int)), (16, .slice o ts.length e c), (17, .int .i64 (ts.length : Int)), (18, .int .i64 (j : Int))] 38 hj []) ts.length ?_ ?_)
    · exact ⟨0, by omega, by omega, ⟨ko, kf, kn, kl⟩, hmk, hup, hlow, rfl, rfl, rfl, rfl, rfl, rfl, rfl, rfl, rfl, rfl, rfl, trivial⟩
    clear hF hup hmk hlow hlrow'
    rintro m st ⟨j, hj, rfl, ⟨jo, jf, jn, jl⟩, hmj, hup, hlow, hF⟩
    obtain ⟨f, rfl⟩ := hF.open
    simp only [updL]
    simp only at hmj hlow
    by_cases hlt : j < ts.length
    · have c1 : decide ((j : Int) < (ts.length : Int)) = true := by simp only [decide_eq_true_eq]; omega
      obtain ⟨t, ht⟩ : ∃ t, ts[j]? = some t := ⟨ts[j], List.getElem?_eq_getElem hlt⟩
      obtain ⟨tid, toff, tcap, tcs, hv', htid, htrow, htl, htch, htcell⟩ := hv.open (i := j) (by rw [List.length_map]; exact hlt)
      rw [List.length_map] at hv'
      cases hv'
      have htrow' := hup.row htid htrow hno
      simp only at htrow'
      have hck := htch j _ (rows_get ts ht)
      have hjn : h.next ≤ jn := hup.next
      have hne : (id = jn) = False := by simp only [eq_iff_iff, iff_false]; omega
      have hbm : bndM (1000000000000000 + (ts.take j).length * 1000000000000) (addL times ml (ts.take j)) := addL_bnd htm hB _ _ rfl fun t ht => ham t (List.mem_of_mem_take ht)
      have hbk := hbm t.key
      have hjl : (ts.take j).length ≤ 1000 := by rw [List.length_take]; omega
      have hat := ham t (List.mem_of_getElem? ht)
      have hmul : times * t.am = t.am ∨ times * t.am = -t.am := by rcases htm with rfl | rfl <;> omega
      generalize hcur : addL times ml (ts.take j) = cur at *
      (repeat refine AWp.seq ?_); change AWp _ _ _ _ _; refine AWp.region ?_; (repeat (first | refine AOps.v rfl rfl rfl rfl rfl (by simp only [evS, cond_tt, cond_ff, absV, depthV, Nat.reduceEqDiff, Nat.reduceLT, ↓reduceIte, Option.map_some, Option.bind_some, List.toList_toArray, c1]; rfl) ?_ | refine AOps.s rfl rfl rfl ?_ | refine AOps.u rfl rfl rfl rfl (by simp only [evS, cond_tt, cond_ff, absV, depthV, Nat.reduceEqDiff, Nat.reduceLT, ↓reduceIte, Option.map_some, Option.bind_some, List.toList_toArray, c1]; rfl) ?_)); refine AOps.nil ?_
      (repeat refine AWp.seq ?_); change AWp _ _ _ _ _; refine AWp.yes (by rfl) (by rfl) (AWp.skip ?_)
      (repeat refine AWp.seq ?_)
      refine AWp.block ?_
      (repeat refine AWp.seq ?_)
      refine AWp.region ?_
      (repeat (first | refine AOps.v rfl rfl rfl rfl rfl (by simp only [evS, cond_tt, cond_ff, absV, depthV, Nat.reduceEqDiff, Nat.reduceLT, ↓reduceIte, Option.map_some, Option.bind_some, List.toList_toArray, load_agg Tryz.agg60 Tryz.size60, load_one Tryz.agg9, load_one Tryz.agg3, load_one Tryz.agg56, Tryz.fa60_0, Tryz.fa60_1, Tryz.fa60_2, len_slice Tryz.underlying56, len_slice Tryz.underlying163, H.lay, rowO_put, rowA_cells, Nat.zero_add, Nat.add_zero, ↓reduceIte, iaddr_slice Tryz.underlying56 Tryz.size60 hlt, htrow', hck, Tryz.zero60]; rfl) ?_ | refine AOps.s rfl rfl rfl ?_ | refine AOps.u rfl rfl rfl rfl (by simp only [evS, cond_tt, cond_ff, absV, depthV, Nat.reduceEqDiff, Nat.reduceLT, ↓reduceIte, Option.map_some, Option.bind_some, List.toList_toArray, load_agg Tryz.agg60 Tryz.size60, load_one Tryz.agg9, load_one Tryz.agg3, load_one Tryz.agg56, Tryz.fa60_0, Tryz.fa60_1, Tryz.fa60_2, len_slice Tryz.underlying56, len_slice Tryz.underlying163, H.lay, rowO_put, rowA_cells, Nat.zero_add, Nat.add_zero, ↓reduceIte, iaddr_slice Tryz.underlying56 Tryz.size60 hlt, htrow', hck, Tryz.zero60]; rfl) ?_))
      refine AOps.st rfl rfl rfl (by simp only [evS, cond_tt, cond_ff, absV, depthV, Nat.reduceEqDiff, Nat.reduceLT, ↓reduceIte, Option.map_some, Option.bind_some, List.toList_toArray]; rfl) (by simp only [evS, cond_tt, cond_ff, absV, depthV, Nat.reduceEqDiff, Nat.reduceLT, ↓reduceIte, Option.map_some, Option.bind_some, List.toList_toArray]; rfl) (by exact Tryz.size60) (by simp only [H.lay, put_get]; rfl) (by simp only [H.lay, put_get]; rfl) (by rfl) (by rfl) (cs' := t.cells) (by rfl) (by simp only [H.lay]; exact minN_left (by rcases hlow with e | e <;> omega)) ?_
      refine AOps.nil ?_
      simp only [H.lay]
      generalize hO : Tr.put (Tr.put jo jn (some (.cells [.str [], .str [], .int .i64 0] jn))) jn (some (.cells t.cells jn)) = O
      generalize hFM : Tr.put jf jn (some (jn, jn)) = FM
      have hrowt : rowO O jn = some [.str t.fr, .str t.to, .int .i64 t.am] := by rw [← hO, rowO_put, if_pos rfl]; rfl
      have hOo : ∀ i, i ≠ jn → O.get i = jo.get i := fun i hi => by rw [← hO, put_other _ _ hi, put_other _ _ hi]
      have hmO : MapAt Pr.av intAV O id cur := (hOo id (by omega)).trans hmj
      have lk : ∀ fm nx lw, lookupA Tryz.prog ⟨O, fm, nx, lw⟩ 122 (.map (some id)) (Pr.av (t.fr, t.to)) false = some (.int .i64 (getM 0 t.key cur)) := fun fm nx lw =>
        look_map (h := ⟨O, fm, nx, lw⟩) (uv := intAV) (u0 := 0) Tryz.underlying122 Tryz.keysP Tryz.zero3 hmO t.key false
      have me : ∀ fm nx lw, mapEntryA Tryz.prog ⟨O, fm, nx, lw⟩ 122 (.map (some id)) (Pr.av (t.fr, t.to)) = some (.tup [.int .i64 (getM 0 t.key cur), .int .i64 (plcM t.key cur : Int)], ⟨O.put id (some (.map (encE Pr.av intAV 0 (touchM 0 t.key cur)) (touchM 0 t.key cur).length)), fm, nx, minN lw id⟩) := fun fm nx lw =>
        mapEntry_map (h := ⟨O, fm, nx, lw⟩) (uv := intAV) (u0 := 0) Tryz.underlying122 Tryz.keysP Tryz.zero3 hmO t.key
      generalize hO2 : Tr.put O id (some (.map (encE Pr.av intAV 0 (touchM 0 t.key cur)) (touchM 0 t.key cur).length)) = O2 at me
      have hmO2 : MapAt Pr.av intAV O2 id (touchM 0 t.key cur) := by rw [← hO2]; exact mapAt_put _
      have hrowt2 : rowO O2 jn = some [.str t.fr, .str t.to, .int .i64 t.am] := by rw [← hO2, rowO_put, if_neg (by omega)]; exact hrowt
      have lk2 : ∀ fm nx lw, lookupA Tryz.prog ⟨O2, fm, nx, lw⟩ 122 (.map (some id)) (Pr.av (t.fr, t.to)) false = some (.int .i64 (getM 0 t.key cur)) := fun fm nx lw => by
        have := look_map (h := ⟨O2, fm, nx, lw⟩) (uv := intAV) (u0 := 0) Tryz.underlying122 Tryz.keysP Tryz.zero3 hmO2 t.key false
        rw [getM_touch] at this; exact this
      have es : ∀ fm nx lw (v : Int), entryStoreA ⟨O2, fm, nx, lw⟩ (.map (some id)) (.int .i64 (plcM t.key cur : Int)) (.int .i64 v) = some ⟨O2.put id (some (.map (encE Pr.av intAV 0 (putM t.key v cur)) (putM t.key v cur).length)), fm, nx, minN lw id⟩ := fun fm nx lw v =>
        entryStore_map (h' := ⟨O2, fm, nx, lw⟩) (uv := intAV) hmO2 v
      have b1 : -9223372036854775808 ≤ times * t.am ∧ times * t.am ≤ 9223372036854775807 := by rcases hmul with e | e <;> rw [e] <;> omega
      have b2 : -9223372036854775808 ≤ getM 0 t.key cur + times * t.am ∧ getM 0 t.key cur + times * t.am ≤ 9223372036854775807 := by rcases hmul with e | e <;> rw [e] <;> omega
      refine AWp.draws (cv := cv0) cv0_ok rfl (L := 15) rfl (ms := [0, 0, 2, 0, 8, 30, 63, 0, 0, 256, 896, 2047, 1983, 6079, 16383]) (by kernel_rfl) (by kernel_rfl) ?_
      (repeat (first | refine DRun.r rfl rfl rfl rfl rfl rfl (by simp only [evS, cond_tt, cond_ff, absV, depthV, Nat.reduceEqDiff, Nat.reduceLT, ↓reduceIte, Option.map_some, Option.bind_some, List.toList_toArray, addX_nil, updo_some, updo_none, orU_some, List.filter_nil, load_agg Tryz.agg60 Tryz.size60, load_one Tryz.agg9, load_one Tryz.agg3, load_one Tryz.agg56, Tryz.fa60_0, Tryz.fa60_1, Tryz.fa60_2, len_slice Tryz.underlying56, len_slice Tryz.underlying163, H.lay, rowO_put, rowA_cells, Nat.zero_add, Nat.add_zero, ↓reduceIte, op_lookup, hrowt, lk, bin_mul b1, bin_add b2, partsA_cons, partsA_nil, build125]; rfl) ?_ | refine DRun.s rfl rfl rfl ?_))
      refine DRun.e rfl rfl rfl rfl rfl rfl (by simp only [evS, cond_tt, cond_ff, absV, depthV, Nat.reduceEqDiff, Nat.reduceLT, ↓reduceIte, Option.map_some, Option.bind_some, List.toList_toArray, addX_nil, updo_some, updo_none, orU_some, List.filter_nil, op_mapEntry, me]; rfl) ?_
      (repeat (first | refine DRun.r rfl rfl rfl rfl rfl rfl (by simp only [evS, cond_tt, cond_ff, absV, depthV, Nat.reduceEqDiff, Nat.reduceLT, ↓reduceIte, Option.map_some, Option.bind_some, List.toList_toArray, addX_nil, updo_some, updo_none, orU_some, List.filter_nil, load_agg Tryz.agg60 Tryz.size60, load_one Tryz.agg9, load_one Tryz.agg3, load_one Tryz.agg56, Tryz.fa60_0, Tryz.fa60_1, Tryz.fa60_2, len_slice Tryz.underlying56, len_slice Tryz.underlying163, H.lay, rowO_put, rowA_cells, Nat.zero_add, Nat.add_zero, ↓reduceIte]; rfl) ?_ | refine DRun.s rfl rfl rfl ?_))
      refine DRun.e rfl rfl rfl rfl rfl rfl (by simp only [evS, cond_tt, cond_ff, absV, depthV, Nat.reduceEqDiff, Nat.reduceLT, ↓reduceIte, Option.map_some, Option.bind_some, List.toList_toArray, addX_nil, updo_some, updo_none, orU_some, List.filter_nil, op_entryStore, es]; rfl) ?_
      refine DRun.nil ⟨?_, ?_⟩
      · (intro y hy; simp only [List.nil_append, List.cons_append, List.mem_cons, List.not_mem_nil, or_false] at hy; rcases hy with rfl | rfl | rfl | rfl | rfl | rfl | rfl | rfl | rfl | rfl | rfl | rfl | rfl <;> refine ⟨by first | exact eqTop_str _ _ | exact eqTop_int _ _ _ | exact eqTop_bool _ _ | exact eqTop_ptr _ _ _ | exact eqTop_map _ _ | exact eqTop_slice _ _ _ _ _ _ | exact eqTop_pr _ _ | (simp only [eqTop_agg, eqTop_tup, eqTop, all2, eqL_eq, eqI_eq, kEq, decide_true, Bool.and_self, Bool.and_true]; done), ?_⟩ <;> (simp only [phOk]; refine ⟨?_, ?_, ?_, trivial⟩) <;> first | exact trivial | exact Or.inl rfl | exact Or.inr ⟨_, by simp only [evS, cond_tt, cond_ff, absV, depthV, Nat.reduceEqDiff, Nat.reduceLT, ↓reduceIte, Option.map_some, Option.bind_some, List.toList_toArray, addX_nil, updo_some, updo_none, orU_some, List.filter_nil, load_agg Tryz.agg60 Tryz.size60, load_one Tryz.agg9, load_one Tryz.agg3, load_one Tryz.agg56, Tryz.fa60_0, Tryz.fa60_1, Tryz.fa60_2, len_slice Tryz.underlying56, len_slice Tryz.underlying163, H.lay, rowO_put, rowA_cells, Nat.zero_add, Nat.add_zero, ↓reduceIte, op_lookup, hrowt, hrowt2, lk, lk2, bin_mul b1, bin_add b2, partsA_cons, partsA_nil, build125]; rfl⟩)
      simp only [addX_nil, updo_some, updo_none, orU_some]
      (repeat refine AWp.seq ?_); change AWp _ _ _ _ _; refine AWp.region ?_; (repeat (first | refine AOps.v rfl rfl rfl rfl rfl (by simp only [evS, cond_tt, cond_ff, absV, depthV, Nat.reduceEqDiff, Nat.reduceLT, ↓reduceIte, Option.map_some, Option.bind_some, List.toList_toArray, bin_add (show -9223372036854775808 ≤ (j : Int) + 1 ∧ (j : Int) + 1 ≤ 9223372036854775807 from ⟨by omega, by omega⟩)]; rfl) ?_ | refine AOps.s rfl rfl rfl ?_ | refine AOps.u rfl rfl rfl rfl (by simp only [evS, cond_tt, cond_ff, absV, depthV, Nat.reduceEqDiff, Nat.reduceLT, ↓reduceIte, Option.map_some, Option.bind_some, List.toList_toArray, bin_add (show -9223372036854775808 ≤ (j : Int) + 1 ∧ (j : Int) + 1 ≤ 9223372036854775807 from ⟨by omega, by omega⟩)]; rfl) ?_)); refine AOps.nil ?_
      refine ⟨ts.length - (j + 1), by omega, j + 1, hlt, rfl, _, ?_, ?_, ?_, rfl, rfl, rfl, rfl, rfl, rfl, rfl, rfl, rfl, rfl, rfl, trivial⟩
      · rw [take_snoc ht, addL_snoc, hcur]; exact mapAt_put _
      · refine ⟨by show h.next ≤ jn + 1 + 15; omega, fun i hi hne => ?_, fun i hi => ?_⟩
        · show (Tr.put O2 id _).get i = _
          rw [put_other _ _ hne, ← hO2, put_other _ _ hne, hOo i (by omega)]
          exact hup.objs i hi hne
        · have : FM.get i = jf.get i := by rw [← hFM, put_other _ _ (by omega)]
          exact this.trans (hup.fams i hi)
      · show minN (minN jl id) id = _ ∨ minN (minN jl id) id = _
        rcases hlow with e | e
        · rw [e, minN_right (show id ≤ h.next by omega), minN_self]; exact .inr rfl
        · rw [e, minN_self, minN_self]; exact .inr rfl
    · have hjj : j = ts.length := by omega
      subst hjj
      have c1 : decide ((ts.length : Int) < (ts.length : Int)) = false := by simp
      rw [List.take_length] at hmj
      (repeat refine AWp.seq ?_); change AWp _ _ _ _ _; refine AWp.region ?_; (repeat (first | refine AOps.v rfl rfl rfl rfl rfl (by simp only [evS, cond_tt, cond_ff, absV, depthV, Nat.reduceEqDiff, Nat.reduceLT, ↓reduceIte, Option.map_some, Option.bind_some, List.toList_toArray, c1]; rfl) ?_ | refine AOps.s rfl rfl rfl ?_ | refine AOps.u rfl rfl rfl rfl (by simp only [evS, cond_tt, cond_ff, absV, depthV, Nat.reduceEqDiff, Nat.reduceLT, ↓reduceIte, Option.map_some, Option.bind_some, List.toList_toArray, c1]; rfl) ?_)); refine AOps.nil ?_
      (repeat refine AWp.seq ?_); change AWp _ _ _ _ _; refine AWp.no (by rfl) (by rfl) ?_
      refine AWp.exit ?_
      (repeat refine AWp.seq ?_); change AWp _ _ _ _ _; refine AWp.region ?_; (repeat (first | refine AOps.v rfl rfl rfl rfl rfl (by simp only [evS, cond_tt, cond_ff, absV, depthV, Nat.reduceEqDiff, Nat.reduceLT, ↓reduceIte, Option.map_some, Option.bind_some, List.toList_toArray, bin_add (show -9223372036854775808 ≤ ((0 : Nat) : Int) + 1 ∧ ((0 : Nat) : Int) + 1 ≤ 9223372036854775807 from ⟨by omega, by omega⟩)]; rfl) ?_ | refine AOps.s rfl rfl rfl ?_ | refine AOps.u rfl rfl rfl rfl (by simp only [evS, cond_tt, cond_ff, absV, depthV, Nat.reduceEqDiff, Nat.reduceLT, ↓reduceIte, Option.map_some, Option.bind_some, List.toList_toArray, bin_add (show -9223372036854775808 ≤ ((0 : Nat) : Int) + 1 ∧ ((0 : Nat) : Int) + 1 ≤ 9223372036854775807 from ⟨by omega, by omega⟩)]; rfl) ?_)); refine AOps.nil ?_
      exact ⟨0, by omega, 1, by omega, rfl, ⟨jo, jf, jn, jl⟩, hmj, hup, hlow, rfl, rfl, rfl, rfl, rfl, rfl, rfl, rfl, trivial⟩
  · have hk1' : k = 1 := by omega
    subst hk1'
    have c1 : decide (((1 : Nat) : Int) < (1 : Int)) = false := rfl
    (repeat refine AWp.seq ?_); change AWp _ _ _ _ _; refine AWp.region ?_; (repeat (first | refine AOps.v rfl rfl rfl rfl rfl (by simp only [evS, cond_tt, cond_ff, absV, depthV, Nat.reduceEqDiff, Nat.reduceLT, ↓reduceIte, Option.map_some, Option.bind_some, List.toList_toArray, c1]; rfl) ?_ | refine AOps.s rfl rfl rfl ?_ | refine AOps.u rfl rfl rfl rfl (by simp only [evS, cond_tt, cond_ff, absV, depthV, Nat.reduceEqDiff, Nat.reduceLT, ↓reduceIte, Option.map_some, Option.bind_some, List.toList_toArray, c1]; rfl) ?_)); refine AOps.nil ?_
    (repeat refine AWp.seq ?_); change AWp _ _ _ _ _; refine AWp.no (by rfl) (by rfl) ?_
    refine AWp.exit ?_
    (try simp only [OutOf, Then, Round, NoGoto])
    refine ⟨rfl, _, rfl, .tup [], rfl, .inl ⟨hmk, ⟨hup.next, hup.objs, hup.fams⟩, fun L e1 e2 e3 => ?_⟩⟩
    simp only at hlow
    show minN h.low kl = L
    rw [e1]
    rcases hlow with e | e <;> (rw [e]; exact minN_left (by omega))

end Go.Proofs
