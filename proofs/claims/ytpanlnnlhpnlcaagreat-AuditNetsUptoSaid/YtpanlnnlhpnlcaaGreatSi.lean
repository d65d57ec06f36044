/- Seat r1: lists of balances: equality. No conditions beyond those that each theorem states. -/
import Derived.Test.YtpanlnnlhpnlcaaGreatSe
import Derived.Test.YtpanlnnlhpnlcaaGreatSc
import Derived.Test.YtpanlnnlhpnlcaaGreatGg

set_option linter.unusedSimpArgs false
set_option linter.unusedVariables false
set_option linter.unusedSectionVars false

namespace Go.Proofs
open Go.Ev
set_option maxRecDepth 100000

structure Sh where
  pt : List Nat
  am : Int
  deriving DecidableEq

def Sh.cells (t : Sh) : List AV := [.str t.pt, .int .i64 t.am]
abbrev RdZ (h : H) (v : AV) (ts : List Sh) : Prop := RdS h v 2 (ts.map Sh.cells)

theorem rowsS_get (ts : List Sh) {i : Nat} {t : Sh} (h : ts[i]? = some t) : (ts.map Sh.cells)[i]? = some t.cells := by rw [List.getElem?_map, h]; rfl

theorem eqTop_sh (n : Nat) (t : Sh) : eqTop (n + 2) (.agg t.cells) (.agg t.cells) = true := by
  unfold Sh.cells
  simp only [eqTop, all2, eqL_eq, eqI_eq, decide_true, Bool.and_self, Bool.and_true]
  rfl

theorem Tryz.guard36 : Tryz.prog.eqGuardType Tryz.prog.depth 36 = false := by kernel_rfl
theorem Tryz.stood36 : Tryz.prog.stoodInHeld 36 = false := by kernel_rfl

theorem neq36 (s t : Sh) (t0 : TypeId) (h : t0 = 36) : binA Tryz.prog .neq t0 (.agg s.cells) (.agg t.cells) = some (.bool (!decide (s = t))) := by
  subst h
  obtain ⟨a1, a3⟩ := s
  obtain ⟨b1, b3⟩ := t
  simp only [binA, Tryz.guard36, cond_ff, Sh.cells]
  simp only [eqA, Tryz.underlying36, Tryz.stood36, cond_ff, eqFields, partA, Tryz.agg9, Tryz.agg3, Tryz.underlying9, Tryz.underlying3, List.getElem?_cons_zero, List.getElem?_cons_succ, eqL_eq, eqI_eq, kEq]
  by_cases h1 : a1 = b1 <;> by_cases h3 : a3 = b3 <;> simp [h1, h3]

set_option maxHeartbeats 1000000 in
theorem Tryz.sameS (a b : List Sh) (hlen : a.length ≤ 1000) (v w : AV) (h : H) (hv : RdZ h v a) (hw : RdZ h w b) : ACalls Tryz.prog (.func 22) [v, w] h (fun r h' => r = .bool (decide (a = b)) ∧ h' = h) := by
  refine ACalls.body (n := 26) Tryz.nogo Tryz.func22 rfl rfl ?_
  rw [argF2]
  obtain ⟨o, e, c, rfl⟩ := hv.len
  obtain ⟨o', e', c', rfl⟩ := hw.len
  rw [List.length_map] at hv hw ⊢
  rw [List.length_map]
  (repeat refine AWp.seq ?_); change AWp _ _ _ _ _; refine AWp.region ?_; (repeat (first | refine AOps.v rfl rfl rfl rfl rfl (by simp only [cells_agg, cells_str, cells_int, cells_bool, cells_ptr, cells_slice, cells_map, cells_fn, op_move, op_assign, op_pick, pick_some, op_alloc, op_box, op_build, op_load, load_some, op_store, store_some, op_bin, op_un, un_not, op_fieldAddr, op_indexAddr, op_index, op_field, op_extract, extract_0, extract_1, extract_2, op_builtin, bi_len, op_func, cond_tt, cond_ff, ev_tmp, ev_const, ev_func, absV, depthV, upd_eq, Nat.reduceEqDiff, Nat.reduceLT, ↓reduceIte, Option.map_some, Option.bind_some, evs_nil, evs_cons, List.toList_toArray, bin_lss k_i64, bin_leq k_i64, bin_gtr k_i64, bin_geq k_i64, bin_eql k_i64, bin_neq k_i64, bin_lss k_u8, bin_leq k_u8, bin_gtr k_u8, bin_geq k_u8, bin_eql k_u8, bin_neq k_u8, bin_seql, bin_sneq]; rfl) ?_ | refine AOps.s rfl rfl rfl ?_ | refine AOps.u rfl rfl rfl rfl (by simp only [cells_agg, cells_str, cells_int, cells_bool, cells_ptr, cells_slice, cells_map, cells_fn, op_move, op_assign, op_pick, pick_some, op_alloc, op_box, op_build, op_load, load_some, op_store, store_some, op_bin, op_un, un_not, op_fieldAddr, op_indexAddr, op_index, op_field, op_extract, extract_0, extract_1, extract_2, op_builtin, bi_len, op_func, cond_tt, cond_ff, ev_tmp, ev_const, ev_func, absV, depthV, upd_eq, Nat.reduceEqDiff, Nat.reduceLT, ↓reduceIte, Option.map_some, Option.bind_some, evs_nil, evs_cons, List.toList_toArray, bin_lss k_i64, bin_leq k_i64, bin_gtr k_i64, bin_geq k_i64, bin_eql k_i64, bin_neq k_i64, bin_lss k_u8, bin_leq k_u8, bin_gtr k_u8, bin_geq k_u8, bin_eql k_u8, bin_neq k_u8, bin_seql, bin_sneq]; rfl) ?_)); refine AOps.nil ?_
  by_cases hl : a.length = b.length
  · have c0 : decide ((a.length : Int) = (b.length : Int)) = true := by rw [decide_eq_true_eq]; omega
    (repeat refine AWp.seq ?_); change AWp _ _ _ _ _; refine AWp.region ?_; (repeat (first | refine AOps.v rfl rfl rfl rfl rfl (by simp only [cells_agg, cells_str, cells_int, cells_bool, cells_ptr, cells_slice, cells_map, cells_fn, op_move, op_assign, op_pick, pick_some, op_alloc, op_box, op_build, op_load, load_some, op_store, store_some, op_bin, op_un, un_not, op_fieldAddr, op_indexAddr, op_index, op_field, op_extract, extract_0, extract_1, extract_2, op_builtin, bi_len, op_func, cond_tt, cond_ff, ev_tmp, ev_const, ev_func, absV, depthV, upd_eq, Nat.reduceEqDiff, Nat.reduceLT, ↓reduceIte, Option.map_some, Option.bind_some, evs_nil, evs_cons, List.toList_toArray, bin_lss k_i64, bin_leq k_i64, bin_gtr k_i64, bin_geq k_i64, bin_eql k_i64, bin_neq k_i64, bin_lss k_u8, bin_leq k_u8, bin_gtr k_u8, bin_geq k_u8, bin_eql k_u8, bin_neq k_u8, bin_seql, bin_sneq, load_agg Tryz.agg60 Tryz.size60, load_agg Tryz.agg36 Tryz.size36, load_one Tryz.agg9, load_one Tryz.agg3, load_one Tryz.agg31, load_one Tryz.agg56, Tryz.fa60_0, Tryz.fa60_1, Tryz.fa60_2, Tryz.fa36_0, Tryz.fa36_1, len_slice Tryz.underlying31, len_slice Tryz.underlying56, H.lay, rowO_put, rowA_cells, Nat.zero_add, Nat.add_zero, ↓reduceIte, c0]; rfl) ?_ | refine AOps.s rfl rfl rfl ?_ | refine AOps.u rfl rfl rfl rfl (by simp only [cells_agg, cells_str, cells_int, cells_bool, cells_ptr, cells_slice, cells_map, cells_fn, op_move, op_assign, op_pick, pick_some, op_alloc, op_box, op_build, op_load, load_some, op_store, store_some, op_bin, op_un, un_not, op_fieldAddr, op_indexAddr, op_index, op_field, op_extract, extract_0, extract_1, extract_2, op_builtin, bi_len, op_func, cond_tt, cond_ff, ev_tmp, ev_const, ev_func, absV, depthV, upd_eq, Nat.reduceEqDiff, Nat.reduceLT, ↓reduceIte, Option.map_some, Option.bind_some, evs_nil, evs_cons, List.toList_toArray, bin_lss k_i64, bin_leq k_i64, bin_gtr k_i64, bin_geq k_i64, bin_eql k_i64, bin_neq k_i64, bin_lss k_u8, bin_leq k_u8, bin_gtr k_u8, bin_geq k_u8, bin_eql k_u8, bin_neq k_u8, bin_seql, bin_sneq, load_agg Tryz.agg60 Tryz.size60, load_agg Tryz.agg36 Tryz.size36, load_one Tryz.agg9, load_one Tryz.agg3, load_one Tryz.agg31, load_one Tryz.agg56, Tryz.fa60_0, Tryz.fa60_1, Tryz.fa60_2, Tryz.fa36_0, Tryz.fa36_1, len_slice Tryz.underlying31, len_slice Tryz.underlying56, H.lay, rowO_put, rowA_cells, Nat.zero_add, Nat.add_zero, ↓reduceIte, c0]; rfl) ?_)); refine AOps.nil ?_
    (repeat refine AWp.seq ?_); change AWp _ _ _ _ _; refine AWp.no (by rfl) (by rfl) (AWp.skip ?_)
    (repeat refine AWp.seq ?_); change AWp _ _ _ _ _; refine AWp.region ?_; (repeat (first | refine AOps.v rfl rfl rfl rfl rfl (by simp only [cells_agg, cells_str, cells_int, cells_bool, cells_ptr, cells_slice, cells_map, cells_fn, op_move, op_assign, op_pick, pick_some, op_alloc, op_box, op_build, op_load, load_some, op_store, store_some, op_bin, op_un, un_not, op_fieldAddr, op_indexAddr, op_index, op_field, op_extract, extract_0, extract_1, extract_2, op_builtin, bi_len, op_func, cond_tt, cond_ff, ev_tmp, ev_const, ev_func, absV, depthV, upd_eq, Nat.reduceEqDiff, Nat.reduceLT, ↓reduceIte, Option.map_some, Option.bind_some, evs_nil, evs_cons, List.toList_toArray, bin_lss k_i64, bin_leq k_i64, bin_gtr k_i64, bin_geq k_i64, bin_eql k_i64, bin_neq k_i64, bin_lss k_u8, bin_leq k_u8, bin_gtr k_u8, bin_geq k_u8, bin_eql k_u8, bin_neq k_u8, bin_seql, bin_sneq]; rfl) ?_ | refine AOps.s rfl rfl rfl ?_ | refine AOps.u rfl rfl rfl rfl (by simp only [cells_agg, cells_str, cells_int, cells_bool, cells_ptr, cells_slice, cells_map, cells_fn, op_move, op_assign, op_pick, pick_some, op_alloc, op_box, op_build, op_load, load_some, op_store, store_some, op_bin, op_un, un_not, op_fieldAddr, op_indexAddr, op_index, op_field, op_extract, extract_0, extract_1, extract_2, op_builtin, bi_len, op_func, cond_tt, cond_ff, ev_tmp, ev_const, ev_func, absV, depthV, upd_eq, Nat.reduceEqDiff, Nat.reduceLT, ↓reduceIte, Option.map_some, Option.bind_some, evs_nil, evs_cons, List.toList_toArray, bin_lss k_i64, bin_leq k_i64, bin_gtr k_i64, bin_geq k_i64, bin_eql k_i64, bin_neq k_i64, bin_lss k_u8, bin_leq k_u8, bin_gtr k_u8, bin_geq k_u8, bin_eql k_u8, bin_neq k_u8, bin_seql, bin_sneq]; rfl) ?_)); refine AOps.nil ?_
    refine AWp.block (AWp.loop (fun m st => ∃ k kn : Nat, k ≤ a.length ∧ m = a.length - k ∧ h.next ≤ kn ∧ (∀ i : Nat, i < k → a[i]? = b[i]?) ∧
      Fr st [(0, .slice o a.length e c), (1, .slice o' b.length e' c'), (4, .bool false), (5, .int .i64 (k : Int))] 26 ⟨h.objs, h.fams, kn, h.next⟩ []) a.length ?_ ?_)
    · exact ⟨0, h.next, by omega, by omega, Nat.le_refl _, fun i hi => by omega, rfl, rfl, rfl, rfl, rfl, rfl, rfl, trivial⟩
    rintro m st ⟨k, kn, hk, rfl, hkn, hall, hF⟩
    obtain ⟨f, rfl⟩ := hF.open
    simp only [updL]
    by_cases hlt : k < a.length
    · have hlt2 : k < b.length := by omega
      have c1 : decide ((k : Int) < (a.length : Int)) = true := by simp only [decide_eq_true_eq]; omega
      obtain ⟨s, hs⟩ : ∃ t, a[k]? = some t := ⟨a[k], List.getElem?_eq_getElem hlt⟩
      obtain ⟨t, ht⟩ : ∃ t, b[k]? = some t := ⟨b[k], List.getElem?_eq_getElem hlt2⟩
      obtain ⟨id, off, cap, cs, hv', hid, hrow, hcl, hch, hcell⟩ := hv.open (i := k) (by rw [List.length_map]; exact hlt)
      rw [List.length_map] at hv'
      cases hv'
      obtain ⟨id2, off2, cap2, cs2, hw', hid2, hrow2, hcl2, hch2, hcell2⟩ := hw.open (i := k) (by rw [List.length_map]; exact hlt2)
      rw [List.length_map] at hw'
      cases hw'
      have kc := hch _ _ (rowsS_get a hs)
      have kc2 := hch2 _ _ (rowsS_get b ht)
      (repeat refine AWp.seq ?_); change AWp _ _ _ _ _; refine AWp.region ?_; (repeat (first | refine AOps.v rfl rfl rfl rfl rfl (by simp only [cells_agg, cells_str, cells_int, cells_bool, cells_ptr, cells_slice, cells_map, cells_fn, op_move, op_assign, op_pick, pick_some, op_alloc, op_box, op_build, op_load, load_some, op_store, store_some, op_bin, op_un, un_not, op_fieldAddr, op_indexAddr, op_index, op_field, op_extract, extract_0, extract_1, extract_2, op_builtin, bi_len, op_func, cond_tt, cond_ff, ev_tmp, ev_const, ev_func, absV, depthV, upd_eq, Nat.reduceEqDiff, Nat.reduceLT, ↓reduceIte, Option.map_some, Option.bind_some, evs_nil, evs_cons, List.toList_toArray, bin_lss k_i64, bin_leq k_i64, bin_gtr k_i64, bin_geq k_i64, bin_eql k_i64, bin_neq k_i64, bin_lss k_u8, bin_leq k_u8, bin_gtr k_u8, bin_geq k_u8, bin_eql k_u8, bin_neq k_u8, bin_seql, bin_sneq, load_agg Tryz.agg60 Tryz.size60, load_agg Tryz.agg36 Tryz.size36, load_one Tryz.agg9, load_one Tryz.agg3, load_one Tryz.agg31, load_one Tryz.agg56, Tryz.fa60_0, Tryz.fa60_1, Tryz.fa60_2, Tryz.fa36_0, Tryz.fa36_1, len_slice Tryz.underlying31, len_slice Tryz.underlying56, H.lay, rowO_put, rowA_cells, Nat.zero_add, Nat.add_zero, ↓reduceIte, c1]; rfl) ?_ | refine AOps.s rfl rfl rfl ?_ | refine AOps.u rfl rfl rfl rfl (by simp only [cells_agg, cells_str, cells_int, cells_bool, cells_ptr, cells_slice, cells_map, cells_fn, op_move, op_assign, op_pick, pick_some, op_alloc, op_box, op_build, op_load, load_some, op_store, store_some, op_bin, op_un, un_not, op_fieldAddr, op_indexAddr, op_index, op_field, op_extract, extract_0, extract_1, extract_2, op_builtin, bi_len, op_func, cond_tt, cond_ff, ev_tmp, ev_const, ev_func, absV, depthV, upd_eq, Nat.reduceEqDiff, Nat.reduceLT, ↓reduceIte, Option.map_some, Option.bind_some, evs_nil, evs_cons, List.toList_toArray, bin_lss k_i64, bin_leq k_i64, bin_gtr k_i64, bin_geq k_i64, bin_eql k_i64, bin_neq k_i64, bin_lss k_u8, bin_leq k_u8, bin_gtr k_u8, bin_geq k_u8, bin_eql k_u8, bin_neq k_u8, bin_seql, bin_sneq, load_agg Tryz.agg60 Tryz.size60, load_agg Tryz.agg36 Tryz.size36, load_one Tryz.agg9, load_one Tryz.agg3, load_one Tryz.agg31, load_one Tryz.agg56, Tryz.fa60_0, Tryz.fa60_1, Tryz.fa60_2, Tryz.fa36_0, Tryz.fa36_1, len_slice Tryz.underlying31, len_slice Tryz.underlying56, H.lay, rowO_put, rowA_cells, Nat.zero_add, Nat.add_zero, ↓reduceIte, c1]; rfl) ?_)); refine AOps.nil ?_
      (repeat refine AWp.seq ?_); change AWp _ _ _ _ _; refine AWp.yes (by rfl) (by rfl) (AWp.skip ?_)
      (repeat refine AWp.seq ?_)
      refine AWp.block ?_
      cases e1 : decide (s = t)
      · (repeat refine AWp.seq ?_)
        refine AWp.draws (cv := cv0) cv0_ok rfl (L := 9) rfl (ms := [0, 0, 3, 7, 0, 0, 48, 112, 255]) (by kernel_rfl) (by kernel_rfl) ?_
        (repeat (first | refine DRun.r rfl rfl rfl rfl rfl rfl (by simp only [cells_agg, cells_str, cells_int, cells_bool, cells_ptr, cells_slice, cells_map, cells_fn, op_move, op_assign, op_pick, pick_some, op_alloc, op_box, op_build, op_load, load_some, op_store, store_some, op_bin, op_un, un_not, op_fieldAddr, op_indexAddr, op_index, op_field, op_extract, extract_0, extract_1, extract_2, op_builtin, bi_len, op_func, cond_tt, cond_ff, ev_tmp, ev_const, ev_func, absV, depthV, upd_eq, Nat.reduceEqDiff, Nat.reduceLT, ↓reduceIte, Option.map_some, Option.bind_some, evs_nil, evs_cons, List.toList_toArray, bin_lss k_i64, bin_leq k_i64, bin_gtr k_i64, bin_geq k_i64, bin_eql k_i64, bin_neq k_i64, bin_lss k_u8, bin_leq k_u8, bin_gtr k_u8, bin_geq k_u8, bin_eql k_u8, bin_neq k_u8, bin_seql, bin_sneq, addX_nil, updo_some, updo_none, orU_some, List.filter_nil, load_agg Tryz.agg60 Tryz.size60, load_agg Tryz.agg36 Tryz.size36, load_one Tryz.agg9, load_one Tryz.agg3, load_one Tryz.agg31, load_one Tryz.agg56, Tryz.fa60_0, Tryz.fa60_1, Tryz.fa60_2, Tryz.fa36_0, Tryz.fa36_1, len_slice Tryz.underlying31, len_slice Tryz.underlying56, H.lay, rowO_put, rowA_cells, Nat.zero_add, Nat.add_zero, ↓reduceIte, iaddr_slice Tryz.underlying31 Tryz.size36 hlt, iaddr_slice Tryz.underlying31 Tryz.size36 hlt2, hrow, hrow2, kc, kc2, neq36 s t 36 rfl, e1]; rfl) ?_ | refine DRun.s rfl rfl rfl ?_))
        refine DRun.nil ⟨?_, ?_⟩
        · (intro y hy; simp only [List.nil_append, List.cons_append, List.mem_cons, List.not_mem_nil, or_false] at hy; (repeat' (rcases hy with hy | hy)) <;> (try subst hy) <;> refine ⟨by first | exact eqTop_str _ _ | exact eqTop_int _ _ _ | exact eqTop_bool _ _ | exact eqTop_ptr _ _ _ | exact eqTop_map _ _ | exact eqTop_slice _ _ _ _ _ _ | exact eqTop_sh _ _ | (simp only [eqTop_agg, eqTop_tup, eqTop, all2, eqL_eq, eqI_eq, kEq, decide_true, Bool.and_self, Bool.and_true]; done), ?_⟩ <;> (simp only [phOk]; refine ⟨?_, trivial⟩) <;> first | exact trivial | exact Or.inl rfl | exact Or.inr ⟨_, by simp only [cells_agg, cells_str, cells_int, cells_bool, cells_ptr, cells_slice, cells_map, cells_fn, op_move, op_assign, op_pick, pick_some, op_alloc, op_box, op_build, op_load, load_some, op_store, store_some, op_bin, op_un, un_not, op_fieldAddr, op_indexAddr, op_index, op_field, op_extract, extract_0, extract_1, extract_2, op_builtin, bi_len, op_func, cond_tt, cond_ff, ev_tmp, ev_const, ev_func, absV, depthV, upd_eq, Nat.reduceEqDiff, Nat.reduceLT, ↓reduceIte, Option.map_some, Option.bind_some, evs_nil, evs_cons, List.toList_toArray, bin_lss k_i64, bin_leq k_i64, bin_gtr k_i64, bin_geq k_i64, bin_eql k_i64, bin_neq k_i64, bin_lss k_u8, bin_leq k_u8, bin_gtr k_u8, bin_geq k_u8, bin_eql k_u8, bin_neq k_u8, bin_seql, bin_sneq, addX_nil, updo_some, updo_none, orU_some, List.filter_nil, load_agg Tryz.agg60 Tryz.size60, load_agg Tryz.agg36 Tryz.size36, load_one Tryz.agg9, load_one Tryz.agg3, load_one Tryz.agg31, load_one Tryz.agg56, Tryz.fa60_0, Tryz.fa60_1, Tryz.fa60_2, Tryz.fa36_0, Tryz.fa36_1, len_slice Tryz.underlying31, len_slice Tryz.underlying56, H.lay, rowO_put, rowA_cells, Nat.zero_add, Nat.add_zero, ↓reduceIte, iaddr_slice Tryz.underlying31 Tryz.size36 hlt, iaddr_slice Tryz.underlying31 Tryz.size36 hlt2, hrow, hrow2, kc, kc2, neq36 s t 36 rfl, e1]; rfl⟩)
        simp only [List.filter_nil, addX_nil, updo_some, updo_none, orU_some]
        show AWp _ _ _ _ _
        (repeat refine AWp.seq ?_); change AWp _ _ _ _ _; refine AWp.yes (by rfl) (by rfl) ?_
        (repeat refine AWp.seq ?_); change AWp _ _ _ _ _; refine AWp.region ?_; (repeat (first | refine AOps.v rfl rfl rfl rfl rfl (by simp only [cells_agg, cells_str, cells_int, cells_bool, cells_ptr, cells_slice, cells_map, cells_fn, op_move, op_assign, op_pick, pick_some, op_alloc, op_box, op_build, op_load, load_some, op_store, store_some, op_bin, op_un, un_not, op_fieldAddr, op_indexAddr, op_index, op_field, op_extract, extract_0, extract_1, extract_2, op_builtin, bi_len, op_func, cond_tt, cond_ff, ev_tmp, ev_const, ev_func, absV, depthV, upd_eq, Nat.reduceEqDiff, Nat.reduceLT, ↓reduceIte, Option.map_some, Option.bind_some, evs_nil, evs_cons, List.toList_toArray, bin_lss k_i64, bin_leq k_i64, bin_gtr k_i64, bin_geq k_i64, bin_eql k_i64, bin_neq k_i64, bin_lss k_u8, bin_leq k_u8, bin_gtr k_u8, bin_geq k_u8, bin_eql k_u8, bin_neq k_u8, bin_seql, bin_sneq]; rfl) ?_ | refine AOps.s rfl rfl rfl ?_ | refine AOps.u rfl rfl rfl rfl (by simp only [cells_agg, cells_str, cells_int, cells_bool, cells_ptr, cells_slice, cells_map, cells_fn, op_move, op_assign, op_pick, pick_some, op_alloc, op_box, op_build, op_load, load_some, op_store, store_some, op_bin, op_un, un_not, op_fieldAddr, op_indexAddr, op_index, op_field, op_extract, extract_0, extract_1, extract_2, op_builtin, bi_len, op_func, cond_tt, cond_ff, ev_tmp, ev_const, ev_func, absV, depthV, upd_eq, Nat.reduceEqDiff, Nat.reduceLT, ↓reduceIte, Option.map_some, Option.bind_some, evs_nil, evs_cons, List.toList_toArray, bin_lss k_i64, bin_leq k_i64, bin_gtr k_i64, bin_geq k_i64, bin_eql k_i64, bin_neq k_i64, bin_lss k_u8, bin_leq k_u8, bin_gtr k_u8, bin_geq k_u8, bin_eql k_u8, bin_neq k_u8, bin_seql, bin_sneq]; rfl) ?_)); refine AOps.nil ?_
        refine AWp.ret ?_
        have hne : decide (a = b) = false := by
          rw [decide_eq_false_iff_not]; intro hab; subst hab
          rw [hs] at ht; cases ht; simp at e1
        (try simp only [OutOf, Then, Round, NoGoto]); refine leaves_plain (by rfl) (by rfl) (fun _ => rfl) (by rfl) ⟨?_, rfl⟩; rw [hne]; rfl
      · have est : s = t := by simpa using e1
        (repeat refine AWp.seq ?_)
        refine AWp.draws (cv := cv0) cv0_ok rfl (L := 9) rfl (ms := [0, 0, 3, 7, 0, 0, 48, 112, 255]) (by kernel_rfl) (by kernel_rfl) ?_
        (repeat (first | refine DRun.r rfl rfl rfl rfl rfl rfl (by simp only [cells_agg, cells_str, cells_int, cells_bool, cells_ptr, cells_slice, cells_map, cells_fn, op_move, op_assign, op_pick, pick_some, op_alloc, op_box, op_build, op_load, load_some, op_store, store_some, op_bin, op_un, un_not, op_fieldAddr, op_indexAddr, op_index, op_field, op_extract, extract_0, extract_1, extract_2, op_builtin, bi_len, op_func, cond_tt, cond_ff, ev_tmp, ev_const, ev_func, absV, depthV, upd_eq, Nat.reduceEqDiff, Nat.reduceLT, ↓reduceIte, Option.map_some, Option.bind_some, evs_nil, evs_cons, List.toList_toArray, bin_lss k_i64, bin_leq k_i64, bin_gtr k_i64, bin_geq k_i64, bin_eql k_i64, bin_neq k_i64, bin_lss k_u8, bin_leq k_u8, bin_gtr k_u8, bin_geq k_u8, bin_eql k_u8, bin_neq k_u8, bin_seql, bin_sneq, addX_nil, updo_some, updo_none, orU_some, List.filter_nil, load_agg Tryz.agg60 Tryz.size60, load_agg Tryz.agg36 Tryz.size36, load_one Tryz.agg9, load_one Tryz.agg3, load_one Tryz.agg31, load_one Tryz.agg56, Tryz.fa60_0, Tryz.fa60_1, Tryz.fa60_2, Tryz.fa36_0, Tryz.fa36_1, len_slice Tryz.underlying31, len_slice Tryz.underlying56, H.lay, rowO_put, rowA_cells, Nat.zero_add, Nat.add_zero, ↓reduceIte, iaddr_slice Tryz.underlying31 Tryz.size36 hlt, iaddr_slice Tryz.underlying31 Tryz.size36 hlt2, hrow, hrow2, kc, kc2, neq36 s t 36 rfl, e1]; rfl) ?_ | refine DRun.s rfl rfl rfl ?_))
        refine DRun.nil ⟨?_, ?_⟩
        · (intro y hy; simp only [List.nil_append, List.cons_append, List.mem_cons, List.not_mem_nil, or_false] at hy; (repeat' (rcases hy with hy | hy)) <;> (try subst hy) <;> refine ⟨by first | exact eqTop_str _ _ | exact eqTop_int _ _ _ | exact eqTop_bool _ _ | exact eqTop_ptr _ _ _ | exact eqTop_map _ _ | exact eqTop_slice _ _ _ _ _ _ | exact eqTop_sh _ _ | (simp only [eqTop_agg, eqTop_tup, eqTop, all2, eqL_eq, eqI_eq, kEq, decide_true, Bool.and_self, Bool.and_true]; done), ?_⟩ <;> (simp only [phOk]; refine ⟨?_, trivial⟩) <;> first | exact trivial | exact Or.inl rfl | exact Or.inr ⟨_, by simp only [cells_agg, cells_str, cells_int, cells_bool, cells_ptr, cells_slice, cells_map, cells_fn, op_move, op_assign, op_pick, pick_some, op_alloc, op_box, op_build, op_load, load_some, op_store, store_some, op_bin, op_un, un_not, op_fieldAddr, op_indexAddr, op_index, op_field, op_extract, extract_0, extract_1, extract_2, op_builtin, bi_len, op_func, cond_tt, cond_ff, ev_tmp, ev_const, ev_func, absV, depthV, upd_eq, Nat.reduceEqDiff, Nat.reduceLT, ↓reduceIte, Option.map_some, Option.bind_some, evs_nil, evs_cons, List.toList_toArray, bin_lss k_i64, bin_leq k_i64, bin_gtr k_i64, bin_geq k_i64, bin_eql k_i64, bin_neq k_i64, bin_lss k_u8, bin_leq k_u8, bin_gtr k_u8, bin_geq k_u8, bin_eql k_u8, bin_neq k_u8, bin_seql, bin_sneq, addX_nil, updo_some, updo_none, orU_some, List.filter_nil, load_agg Tryz.agg60 Tryz.size60, load_agg Tryz.agg36 Tryz.size36, load_one Tryz.agg9, load_one Tryz.agg3, load_one Tryz.agg31, load_one Tryz.agg56, Tryz.fa60_0, Tryz.fa60_1, Tryz.fa60_2, Tryz.fa36_0, Tryz.fa36_1, len_slice Tryz.underlying31, len_slice Tryz.underlying56, H.lay, rowO_put, rowA_cells, Nat.zero_add, Nat.add_zero, ↓reduceIte, iaddr_slice Tryz.underlying31 Tryz.size36 hlt, iaddr_slice Tryz.underlying31 Tryz.size36 hlt2, hrow, hrow2, kc, kc2, neq36 s t 36 rfl, e1]; rfl⟩)
        simp only [List.filter_nil, addX_nil, updo_some, updo_none, orU_some]
        show AWp _ _ _ _ _
        (repeat refine AWp.seq ?_); change AWp _ _ _ _ _; refine AWp.no (by rfl) (by rfl) (AWp.skip ?_)
        (repeat refine AWp.seq ?_); change AWp _ _ _ _ _; refine AWp.region ?_; (repeat (first | refine AOps.v rfl rfl rfl rfl rfl (by simp only [cells_agg, cells_str, cells_int, cells_bool, cells_ptr, cells_slice, cells_map, cells_fn, op_move, op_assign, op_pick, pick_some, op_alloc, op_box, op_build, op_load, load_some, op_store, store_some, op_bin, op_un, un_not, op_fieldAddr, op_indexAddr, op_index, op_field, op_extract, extract_0, extract_1, extract_2, op_builtin, bi_len, op_func, cond_tt, cond_ff, ev_tmp, ev_const, ev_func, absV, depthV, upd_eq, Nat.reduceEqDiff, Nat.reduceLT, ↓reduceIte, Option.map_some, Option.bind_some, evs_nil, evs_cons, List.toList_toArray, bin_lss k_i64, bin_leq k_i64, bin_gtr k_i64, bin_geq k_i64, bin_eql k_i64, bin_neq k_i64, bin_lss k_u8, bin_leq k_u8, bin_gtr k_u8, bin_geq k_u8, bin_eql k_u8, bin_neq k_u8, bin_seql, bin_sneq, bin_add (show -9223372036854775808 ≤ (k : Int) + 1 ∧ (k : Int) + 1 ≤ 9223372036854775807 from ⟨by omega, by omega⟩)]; rfl) ?_ | refine AOps.s rfl rfl rfl ?_ | refine AOps.u rfl rfl rfl rfl (by simp only [cells_agg, cells_str, cells_int, cells_bool, cells_ptr, cells_slice, cells_map, cells_fn, op_move, op_assign, op_pick, pick_some, op_alloc, op_box, op_build, op_load, load_some, op_store, store_some, op_bin, op_un, un_not, op_fieldAddr, op_indexAddr, op_index, op_field, op_extract, extract_0, extract_1, extract_2, op_builtin, bi_len, op_func, cond_tt, cond_ff, ev_tmp, ev_const, ev_func, absV, depthV, upd_eq, Nat.reduceEqDiff, Nat.reduceLT, ↓reduceIte, Option.map_some, Option.bind_some, evs_nil, evs_cons, List.toList_toArray, bin_lss k_i64, bin_leq k_i64, bin_gtr k_i64, bin_geq k_i64, bin_eql k_i64, bin_neq k_i64, bin_lss k_u8, bin_leq k_u8, bin_gtr k_u8, bin_geq k_u8, bin_eql k_u8, bin_neq k_u8, bin_seql, bin_sneq, bin_add (show -9223372036854775808 ≤ (k : Int) + 1 ∧ (k : Int) + 1 ≤ 9223372036854775807 from ⟨by omega, by omega⟩)]; rfl) ?_)); refine AOps.nil ?_
        refine ⟨a.length - (k + 1), by omega, k + 1, kn + 9, by omega, rfl, by omega, fun i hi => ?_, rfl, rfl, rfl, rfl, rfl, rfl, rfl, trivial⟩
        by_cases ee : i = k
        · subst ee; rw [hs, ht, est]
        · exact hall i (by omega)
    · have hkk : k = a.length := by omega
      subst hkk
      have c1 : decide ((a.length : Int) < (a.length : Int)) = false := by simp
      (repeat refine AWp.seq ?_); change AWp _ _ _ _ _; refine AWp.region ?_; (repeat (first | refine AOps.v rfl rfl rfl rfl rfl (by simp only [cells_agg, cells_str, cells_int, cells_bool, cells_ptr, cells_slice, cells_map, cells_fn, op_move, op_assign, op_pick, pick_some, op_alloc, op_box, op_build, op_load, load_some, op_store, store_some, op_bin, op_un, un_not, op_fieldAddr, op_indexAddr, op_index, op_field, op_extract, extract_0, extract_1, extract_2, op_builtin, bi_len, op_func, cond_tt, cond_ff, ev_tmp, ev_const, ev_func, absV, depthV, upd_eq, Nat.reduceEqDiff, Nat.reduceLT, ↓reduceIte, Option.map_some, Option.bind_some, evs_nil, evs_cons, List.toList_toArray, bin_lss k_i64, bin_leq k_i64, bin_gtr k_i64, bin_geq k_i64, bin_eql k_i64, bin_neq k_i64, bin_lss k_u8, bin_leq k_u8, bin_gtr k_u8, bin_geq k_u8, bin_eql k_u8, bin_neq k_u8, bin_seql, bin_sneq, load_agg Tryz.agg60 Tryz.size60, load_agg Tryz.agg36 Tryz.size36, load_one Tryz.agg9, load_one Tryz.agg3, load_one Tryz.agg31, load_one Tryz.agg56, Tryz.fa60_0, Tryz.fa60_1, Tryz.fa60_2, Tryz.fa36_0, Tryz.fa36_1, len_slice Tryz.underlying31, len_slice Tryz.underlying56, H.lay, rowO_put, rowA_cells, Nat.zero_add, Nat.add_zero, ↓reduceIte, c1]; rfl) ?_ | refine AOps.s rfl rfl rfl ?_ | refine AOps.u rfl rfl rfl rfl (by simp only [cells_agg, cells_str, cells_int, cells_bool, cells_ptr, cells_slice, cells_map, cells_fn, op_move, op_assign, op_pick, pick_some, op_alloc, op_box, op_build, op_load, load_some, op_store, store_some, op_bin, op_un, un_not, op_fieldAddr, op_indexAddr, op_index, op_field, op_extract, extract_0, extract_1, extract_2, op_builtin, bi_len, op_func, cond_tt, cond_ff, ev_tmp, ev_const, ev_func, absV, depthV, upd_eq, Nat.reduceEqDiff, Nat.reduceLT, ↓reduceIte, Option.map_some, Option.bind_some, evs_nil, evs_cons, List.toList_toArray, bin_lss k_i64, bin_leq k_i64, bin_gtr k_i64, bin_geq k_i64, bin_eql k_i64, bin_neq k_i64, bin_lss k_u8, bin_leq k_u8, bin_gtr k_u8, bin_geq k_u8, bin_eql k_u8, bin_neq k_u8, bin_seql, bin_sneq, load_agg Tryz.agg60 Tryz.size60, load_agg Tryz.agg36 Tryz.size36, load_one Tryz.agg9, load_one Tryz.agg3, load_one Tryz.agg31, load_one Tryz.agg56, Tryz.fa60_0, Tryz.fa60_1, Tryz.fa60_2, Tryz.fa36_0, Tryz.fa36_1, len_slice Tryz.underlying31, len_slice Tryz.underlying56, H.lay, rowO_put, rowA_cells, Nat.zero_add, Nat.add_zero, ↓reduceIte, c1]; rfl) ?_)); refine AOps.nil ?_
      (repeat refine AWp.seq ?_); change AWp _ _ _ _ _; refine AWp.no (by rfl) (by rfl) ?_
      refine AWp.exit ?_
      (repeat refine AWp.seq ?_); change AWp _ _ _ _ _; refine AWp.region ?_; (repeat (first | refine AOps.v rfl rfl rfl rfl rfl (by simp only [cells_agg, cells_str, cells_int, cells_bool, cells_ptr, cells_slice, cells_map, cells_fn, op_move, op_assign, op_pick, pick_some, op_alloc, op_box, op_build, op_load, load_some, op_store, store_some, op_bin, op_un, un_not, op_fieldAddr, op_indexAddr, op_index, op_field, op_extract, extract_0, extract_1, extract_2, op_builtin, bi_len, op_func, cond_tt, cond_ff, ev_tmp, ev_const, ev_func, absV, depthV, upd_eq, Nat.reduceEqDiff, Nat.reduceLT, ↓reduceIte, Option.map_some, Option.bind_some, evs_nil, evs_cons, List.toList_toArray, bin_lss k_i64, bin_leq k_i64, bin_gtr k_i64, bin_geq k_i64, bin_eql k_i64, bin_neq k_i64, bin_lss k_u8, bin_leq k_u8, bin_gtr k_u8, bin_geq k_u8, bin_eql k_u8, bin_neq k_u8, bin_seql, bin_sneq]; rfl) ?_ | refine AOps.s rfl rfl rfl ?_ | refine AOps.u rfl rfl rfl rfl (by simp only [cells_agg, cells_str, cells_int, cells_bool, cells_ptr, cells_slice, cells_map, cells_fn, op_move, op_assign, op_pick, pick_some, op_alloc, op_box, op_build, op_load, load_some, op_store, store_some, op_bin, op_un, un_not, op_fieldAddr, op_indexAddr, op_index, op_field, op_extract, extract_0, extract_1, extract_2, op_builtin, bi_len, op_func, cond_tt, cond_ff, ev_tmp, ev_const, ev_func, absV, depthV, upd_eq, Nat.reduceEqDiff, Nat.reduceLT, ↓reduceIte, Option.map_some, Option.bind_some, evs_nil, evs_cons, List.toList_toArray, bin_lss k_i64, bin_leq k_i64, bin_gtr k_i64, bin_geq k_i64, bin_eql k_i64, bin_neq k_i64, bin_lss k_u8, bin_leq k_u8, bin_gtr k_u8, bin_geq k_u8, bin_eql k_u8, bin_neq k_u8, bin_seql, bin_sneq]; rfl) ?_)); refine AOps.nil ?_
      refine AWp.ret ?_
      have heq : decide (a = b) = true := by
        rw [decide_eq_true_eq]
        apply List.ext_getElem?
        intro i
        by_cases hi : i < a.length
        · exact hall i hi
        · rw [List.getElem?_eq_none (by omega), List.getElem?_eq_none (by omega)]
      (try simp only [OutOf, Then, Round, NoGoto]); refine leaves_plain (by rfl) (by rfl) (fun _ => rfl) (by rfl) ⟨?_, rfl⟩; rw [heq]; rfl
  · have c0 : decide ((a.length : Int) = (b.length : Int)) = false := by rw [decide_eq_false_iff_not]; omega
    have hne : decide (a = b) = false := by rw [decide_eq_false_iff_not]; intro hab; subst hab; exact hl rfl
    (repeat refine AWp.seq ?_); change AWp _ _ _ _ _; refine AWp.region ?_; (repeat (first | refine AOps.v rfl rfl rfl rfl rfl (by simp only [cells_agg, cells_str, cells_int, cells_bool, cells_ptr, cells_slice, cells_map, cells_fn, op_move, op_assign, op_pick, pick_some, op_alloc, op_box, op_build, op_load, load_some, op_store, store_some, op_bin, op_un, un_not, op_fieldAddr, op_indexAddr, op_index, op_field, op_extract, extract_0, extract_1, extract_2, op_builtin, bi_len, op_func, cond_tt, cond_ff, ev_tmp, ev_const, ev_func, absV, depthV, upd_eq, Nat.reduceEqDiff, Nat.reduceLT, ↓reduceIte, Option.map_some, Option.bind_some, evs_nil, evs_cons, List.toList_toArray, bin_lss k_i64, bin_leq k_i64, bin_gtr k_i64, bin_geq k_i64, bin_eql k_i64, bin_neq k_i64, bin_lss k_u8, bin_leq k_u8, bin_gtr k_u8, bin_geq k_u8, bin_eql k_u8, bin_neq k_u8, bin_seql, bin_sneq, load_agg Tryz.agg60 Tryz.size60, load_agg Tryz.agg36 Tryz.size36, load_one Tryz.agg9, load_one Tryz.agg3, load_one Tryz.agg31, load_one Tryz.agg56, Tryz.fa60_0, Tryz.fa60_1, Tryz.fa60_2, Tryz.fa36_0, Tryz.fa36_1, len_slice Tryz.underlying31, len_slice Tryz.underlying56, H.lay, rowO_put, rowA_cells, Nat.zero_add, Nat.add_zero, ↓reduceIte, c0]; rfl) ?_ | refine AOps.s rfl rfl rfl ?_ | refine AOps.u rfl rfl rfl rfl (by simp only [cells_agg, cells_str, cells_int, cells_bool, cells_ptr, cells_slice, cells_map, cells_fn, op_move, op_assign, op_pick, pick_some, op_alloc, op_box, op_build, op_load, load_some, op_store, store_some, op_bin, op_un, un_not, op_fieldAddr, op_indexAddr, op_index, op_field, op_extract, extract_0, extract_1, extract_2, op_builtin, bi_len, op_func, cond_tt, cond_ff, ev_tmp, ev_const, ev_func, absV, depthV, upd_eq, Nat.reduceEqDiff, Nat.reduceLT, ↓reduceIte, Option.map_some, Option.bind_some, evs_nil, evs_cons, List.toList_toArray, bin_lss k_i64, bin_leq k_i64, bin_gtr k_i64, bin_geq k_i64, bin_eql k_i64, bin_neq k_i64, bin_lss k_u8, bin_leq k_u8, bin_gtr k_u8, bin_geq k_u8, bin_eql k_u8, bin_neq k_u8, bin_seql, bin_sneq, load_agg Tryz.agg60 Tryz.size60, load_agg Tryz.agg36 Tryz.size36, load_one Tryz.agg9, load_one Tryz.agg3, load_one Tryz.agg31, load_one Tryz.agg56, Tryz.fa60_0, Tryz.fa60_1, Tryz.fa60_2, Tryz.fa36_0, Tryz.fa36_1, len_slice Tryz.underlying31, len_slice Tryz.underlying56, H.lay, rowO_put, rowA_cells, Nat.zero_add, Nat.add_zero, ↓reduceIte, c0]; rfl) ?_)); refine AOps.nil ?_
    (repeat refine AWp.seq ?_); change AWp _ _ _ _ _; refine AWp.yes (by rfl) (by rfl) ?_
    (repeat refine AWp.seq ?_); change AWp _ _ _ _ _; refine AWp.region ?_; (repeat (first | refine AOps.v rfl rfl rfl rfl rfl (by simp only [cells_agg, cells_str, cells_int, cells_bool, cells_ptr, cells_slice, cells_map, cells_fn, op_move, op_assign, op_pick, pick_some, op_alloc, op_box, op_build, op_load, load_some, op_store, store_some, op_bin, op_un, un_not, op_fieldAddr, op_indexAddr, op_index, op_field, op_extract, extract_0, extract_1, extract_2, op_builtin, bi_len, op_func, cond_tt, cond_ff, ev_tmp, ev_const, ev_func, absV, depthV, upd_eq, Nat.reduceEqDiff, Nat.reduceLT, ↓reduceIte, Option.map_some, Option.bind_some, evs_nil, evs_cons, List.toList_toArray, bin_lss k_i64, bin_leq k_i64, bin_gtr k_i64, bin_geq k_i64, bin_eql k_i64, bin_neq k_i64, bin_lss k_u8, bin_leq k_u8, bin_gtr k_u8, bin_geq k_u8, bin_eql k_u8, bin_neq k_u8, bin_seql, bin_sneq]; rfl) ?_ | refine AOps.s rfl rfl rfl ?_ | refine AOps.u rfl rfl rfl rfl (by simp only [cells_agg, cells_str, cells_int, cells_bool, cells_ptr, cells_slice, cells_map, cells_fn, op_move, op_assign, op_pick, pick_some, op_alloc, op_box, op_build, op_load, load_some, op_store, store_some, op_bin, op_un, un_not, op_fieldAddr, op_indexAddr, op_index, op_field, op_extract, extract_0, extract_1, extract_2, op_builtin, bi_len, op_func, cond_tt, cond_ff, ev_tmp, ev_const, ev_func, absV, depthV, upd_eq, Nat.reduceEqDiff, Nat.reduceLT, ↓reduceIte, Option.map_some, Option.bind_some, evs_nil, evs_cons, List.toList_toArray, bin_lss k_i64, bin_leq k_i64, bin_gtr k_i64, bin_geq k_i64, bin_eql k_i64, bin_neq k_i64, bin_lss k_u8, bin_leq k_u8, bin_gtr k_u8, bin_geq k_u8, bin_eql k_u8, bin_neq k_u8, bin_seql, bin_sneq]; rfl) ?_)); refine AOps.nil ?_
    refine AWp.ret ?_
    (try simp only [OutOf, Then, Round, NoGoto]); refine leaves_plain (by rfl) (by rfl) (fun _ => rfl) (by rfl) ⟨?_, rfl⟩; rw [hne]; rfl

end Go.Proofs

/- Seat r1: audit: validity, amounts, a transfer made. No conditions beyond those that each theorem states. -/
namespace Go.Proofs
open Go.Ev
set_option maxRecDepth 100000

set_option maxHeartbeats 400000 in
theorem Tryz.isAmount (n : Int) (h : H) : ACalls Tryz.prog (.func 78) [.int .i64 n] h (fun v h' => v = .bool (isAm n) ∧ h' = h) := by
  unfold isAm
  refine ACalls.body (n := 9) Tryz.nogo Tryz.func78 rfl rfl ?_
  rw [argF1]
  cases e1 : decide (0 ≤ n) <;> cases e2 : decide (n ≤ 1000000000000)
  all_goals
    (repeat refine AWp.seq ?_); change AWp _ _ _ _ _; refine AWp.region ?_; (repeat (first | refine AOps.v rfl rfl rfl rfl rfl (by simp only [cells_agg, cells_str, cells_int, cells_bool, cells_ptr, cells_slice, cells_map, cells_fn, op_move, op_assign, op_pick, pick_some, op_alloc, op_box, op_build, op_load, load_some, op_store, store_some, op_bin, op_un, un_not, op_fieldAddr, op_indexAddr, op_index, op_field, op_extract, extract_0, extract_1, extract_2, op_builtin, bi_len, op_func, cond_tt, cond_ff, ev_tmp, ev_const, ev_func, absV, depthV, upd_eq, Nat.reduceEqDiff, Nat.reduceLT, ↓reduceIte, Option.map_some, Option.bind_some, evs_nil, evs_cons, List.toList_toArray, bin_lss k_i64, bin_leq k_i64, bin_gtr k_i64, bin_geq k_i64, bin_eql k_i64, bin_neq k_i64, bin_lss k_u8, bin_leq k_u8, bin_gtr k_u8, bin_geq k_u8, bin_eql k_u8, bin_neq k_u8, bin_seql, bin_sneq]; rfl) ?_ | refine AOps.s rfl rfl rfl ?_ | refine AOps.u rfl rfl rfl rfl (by simp only [cells_agg, cells_str, cells_int, cells_bool, cells_ptr, cells_slice, cells_map, cells_fn, op_move, op_assign, op_pick, pick_some, op_alloc, op_box, op_build, op_load, load_some, op_store, store_some, op_bin, op_un, un_not, op_fieldAddr, op_indexAddr, op_index, op_field, op_extract, extract_0, extract_1, extract_2, op_builtin, bi_len, op_func, cond_tt, cond_ff, ev_tmp, ev_const, ev_func, absV, depthV, upd_eq, Nat.reduceEqDiff, Nat.reduceLT, ↓reduceIte, Option.map_some, Option.bind_some, evs_nil, evs_cons, List.toList_toArray, bin_lss k_i64, bin_leq k_i64, bin_gtr k_i64, bin_geq k_i64, bin_eql k_i64, bin_neq k_i64, bin_lss k_u8, bin_leq k_u8, bin_gtr k_u8, bin_geq k_u8, bin_eql k_u8, bin_neq k_u8, bin_seql, bin_sneq]; rfl) ?_)); refine AOps.nil ?_
    (repeat refine AWp.seq ?_); change AWp _ _ _ _ _; refine AWp.region ?_; (repeat (first | refine AOps.v rfl rfl rfl rfl rfl (by simp only [cells_agg, cells_str, cells_int, cells_bool, cells_ptr, cells_slice, cells_map, cells_fn, op_move, op_assign, op_pick, pick_some, op_alloc, op_box, op_build, op_load, load_some, op_store, store_some, op_bin, op_un, un_not, op_fieldAddr, op_indexAddr, op_index, op_field, op_extract, extract_0, extract_1, extract_2, op_builtin, bi_len, op_func, cond_tt, cond_ff, ev_tmp, ev_const, ev_func, absV, depthV, upd_eq, Nat.reduceEqDiff, Nat.reduceLT, ↓reduceIte, Option.map_some, Option.bind_some, evs_nil, evs_cons, List.toList_toArray, bin_lss k_i64, bin_leq k_i64, bin_gtr k_i64, bin_geq k_i64, bin_eql k_i64, bin_neq k_i64, bin_lss k_u8, bin_leq k_u8, bin_gtr k_u8, bin_geq k_u8, bin_eql k_u8, bin_neq k_u8, bin_seql, bin_sneq, e1, e2]; rfl) ?_ | refine AOps.s rfl rfl rfl ?_ | refine AOps.u rfl rfl rfl rfl (by simp only [cells_agg, cells_str, cells_int, cells_bool, cells_ptr, cells_slice, cells_map, cells_fn, op_move, op_assign, op_pick, pick_some, op_alloc, op_box, op_build, op_load, load_some, op_store, store_some, op_bin, op_un, un_not, op_fieldAddr, op_indexAddr, op_index, op_field, op_extract, extract_0, extract_1, extract_2, op_builtin, bi_len, op_func, cond_tt, cond_ff, ev_tmp, ev_const, ev_func, absV, depthV, upd_eq, Nat.reduceEqDiff, Nat.reduceLT, ↓reduceIte, Option.map_some, Option.bind_some, evs_nil, evs_cons, List.toList_toArray, bin_lss k_i64, bin_leq k_i64, bin_gtr k_i64, bin_geq k_i64, bin_eql k_i64, bin_neq k_i64, bin_lss k_u8, bin_leq k_u8, bin_gtr k_u8, bin_geq k_u8, bin_eql k_u8, bin_neq k_u8, bin_seql, bin_sneq, e1, e2]; rfl) ?_)); refine AOps.nil ?_
    refine AWp.ret ?_
    (try simp only [OutOf, Then, Round, NoGoto]); refine leaves_plain (by rfl) (by rfl) (fun _ => rfl) (by rfl) ⟨?_, rfl⟩; rfl

set_option maxHeartbeats 1000000 in
theorem Tryz.validA (t : Xf) (hf : t.fits) (h : H) : ACalls Tryz.prog (.func 42) [.agg t.cells] h (fun v h' => v = .bool t.ok ∧ h' = h) := by
  obtain ⟨h1, h2, b1, b2⟩ := hf
  unfold Xf.ok Xf.cells
  refine ACalls.body (n := 23) Tryz.nogo Tryz.func42 rfl rfl ?_
  rw [argF1]
  cases e1 : nameN t.fr <;> cases e2 : nameN t.to <;> cases e3 : decide (t.fr = t.to) <;> cases e4 : isAm t.am
  all_goals
    (repeat refine AWp.seq ?_); change AWp _ _ _ _ _; refine AWp.region ?_; (repeat (first | refine AOps.v rfl rfl rfl rfl rfl (by simp only [cells_agg, cells_str, cells_int, cells_bool, cells_ptr, cells_slice, cells_map, cells_fn, op_move, op_assign, op_pick, pick_some, op_alloc, op_box, op_build, op_load, load_some, op_store, store_some, op_bin, op_un, un_not, op_fieldAddr, op_indexAddr, op_index, op_field, op_extract, extract_0, extract_1, extract_2, op_builtin, bi_len, op_func, cond_tt, cond_ff, ev_tmp, ev_const, ev_func, absV, depthV, upd_eq, Nat.reduceEqDiff, Nat.reduceLT, ↓reduceIte, Option.map_some, Option.bind_some, evs_nil, evs_cons, List.toList_toArray, bin_lss k_i64, bin_leq k_i64, bin_gtr k_i64, bin_geq k_i64, bin_eql k_i64, bin_neq k_i64, bin_lss k_u8, bin_leq k_u8, bin_gtr k_u8, bin_geq k_u8, bin_eql k_u8, bin_neq k_u8, bin_seql, bin_sneq, load_agg Tryz.agg60 Tryz.size60, load_one Tryz.agg9, load_one Tryz.agg3, Tryz.fa60_0, Tryz.fa60_1, Tryz.fa60_2, len_slice Tryz.underlying56, len_str Tryz.underlying9, H.lay, rowO_put, rowA_cells, Nat.zero_add, Nat.add_zero]; rfl) ?_ | refine AOps.s rfl rfl rfl ?_ | refine AOps.u rfl rfl rfl rfl (by simp only [cells_agg, cells_str, cells_int, cells_bool, cells_ptr, cells_slice, cells_map, cells_fn, op_move, op_assign, op_pick, pick_some, op_alloc, op_box, op_build, op_load, load_some, op_store, store_some, op_bin, op_un, un_not, op_fieldAddr, op_indexAddr, op_index, op_field, op_extract, extract_0, extract_1, extract_2, op_builtin, bi_len, op_func, cond_tt, cond_ff, ev_tmp, ev_const, ev_func, absV, depthV, upd_eq, Nat.reduceEqDiff, Nat.reduceLT, ↓reduceIte, Option.map_some, Option.bind_some, evs_nil, evs_cons, List.toList_toArray, bin_lss k_i64, bin_leq k_i64, bin_gtr k_i64, bin_geq k_i64, bin_eql k_i64, bin_neq k_i64, bin_lss k_u8, bin_leq k_u8, bin_gtr k_u8, bin_geq k_u8, bin_eql k_u8, bin_neq k_u8, bin_seql, bin_sneq, load_agg Tryz.agg60 Tryz.size60, load_one Tryz.agg9, load_one Tryz.agg3, Tryz.fa60_0, Tryz.fa60_1, Tryz.fa60_2, len_slice Tryz.underlying56, len_str Tryz.underlying9, H.lay, rowO_put, rowA_cells, Nat.zero_add, Nat.add_zero]; rfl) ?_)); refine AOps.nil ?_
    (repeat refine AWp.seq ?_); change AWp _ _ _ _ _; refine AWp.region ?_; (repeat (first | refine AOps.v rfl rfl rfl rfl rfl (by simp only [cells_agg, cells_str, cells_int, cells_bool, cells_ptr, cells_slice, cells_map, cells_fn, op_move, op_assign, op_pick, pick_some, op_alloc, op_box, op_build, op_load, load_some, op_store, store_some, op_bin, op_un, un_not, op_fieldAddr, op_indexAddr, op_index, op_field, op_extract, extract_0, extract_1, extract_2, op_builtin, bi_len, op_func, cond_tt, cond_ff, ev_tmp, ev_const, ev_func, absV, depthV, upd_eq, Nat.reduceEqDiff, Nat.reduceLT, ↓reduceIte, Option.map_some, Option.bind_some, evs_nil, evs_cons, List.toList_toArray, bin_lss k_i64, bin_leq k_i64, bin_gtr k_i64, bin_geq k_i64, bin_eql k_i64, bin_neq k_i64, bin_lss k_u8, bin_leq k_u8, bin_gtr k_u8, bin_geq k_u8, bin_eql k_u8, bin_neq k_u8, bin_seql, bin_sneq, load_agg Tryz.agg60 Tryz.size60, load_one Tryz.agg9, load_one Tryz.agg3, Tryz.fa60_0, Tryz.fa60_1, Tryz.fa60_2, len_slice Tryz.underlying56, len_str Tryz.underlying9, H.lay, rowO_put, rowA_cells, Nat.zero_add, Nat.add_zero]; rfl) ?_ | refine AOps.s rfl rfl rfl ?_ | refine AOps.u rfl rfl rfl rfl (by simp only [cells_agg, cells_str, cells_int, cells_bool, cells_ptr, cells_slice, cells_map, cells_fn, op_move, op_assign, op_pick, pick_some, op_alloc, op_box, op_build, op_load, load_some, op_store, store_some, op_bin, op_un, un_not, op_fieldAddr, op_indexAddr, op_index, op_field, op_extract, extract_0, extract_1, extract_2, op_builtin, bi_len, op_func, cond_tt, cond_ff, ev_tmp, ev_const, ev_func, absV, depthV, upd_eq, Nat.reduceEqDiff, Nat.reduceLT, ↓reduceIte, Option.map_some, Option.bind_some, evs_nil, evs_cons, List.toList_toArray, bin_lss k_i64, bin_leq k_i64, bin_gtr k_i64, bin_geq k_i64, bin_eql k_i64, bin_neq k_i64, bin_lss k_u8, bin_leq k_u8, bin_gtr k_u8, bin_geq k_u8, bin_eql k_u8, bin_neq k_u8, bin_seql, bin_sneq, load_agg Tryz.agg60 Tryz.size60, load_one Tryz.agg9, load_one Tryz.agg3, Tryz.fa60_0, Tryz.fa60_1, Tryz.fa60_2, len_slice Tryz.underlying56, len_str Tryz.underlying9, H.lay, rowO_put, rowA_cells, Nat.zero_add, Nat.add_zero]; rfl) ?_))
    refine AOps.c rfl rfl rfl rfl rfl (by simp only [callOf_val, callW_fn, cells_agg, cells_str, cells_int, cells_bool, cells_ptr, cells_slice, cells_map, cells_fn, op_move, op_assign, op_pick, pick_some, op_alloc, op_box, op_build, op_load, load_some, op_store, store_some, op_bin, op_un, un_not, op_fieldAddr, op_indexAddr, op_index, op_field, op_extract, extract_0, extract_1, extract_2, op_builtin, bi_len, op_func, cond_tt, cond_ff, ev_tmp, ev_const, ev_func, absV, depthV, upd_eq, Nat.reduceEqDiff, Nat.reduceLT, ↓reduceIte, Option.map_some, Option.bind_some, evs_nil, evs_cons, List.toList_toArray, bin_lss k_i64, bin_leq k_i64, bin_gtr k_i64, bin_geq k_i64, bin_eql k_i64, bin_neq k_i64, bin_lss k_u8, bin_leq k_u8, bin_gtr k_u8, bin_geq k_u8, bin_eql k_u8, bin_neq k_u8, bin_seql, bin_sneq]; rfl) rfl (Tryz.lexName _ h1 b1 _) ?_; rintro _ _ ⟨rfl, rfl⟩
    rw [e1]
    (repeat (first | refine AOps.v rfl rfl rfl rfl rfl (by simp only [cells_agg, cells_str, cells_int, cells_bool, cells_ptr, cells_slice, cells_map, cells_fn, op_move, op_assign, op_pick, pick_some, op_alloc, op_box, op_build, op_load, load_some, op_store, store_some, op_bin, op_un, un_not, op_fieldAddr, op_indexAddr, op_index, op_field, op_extract, extract_0, extract_1, extract_2, op_builtin, bi_len, op_func, cond_tt, cond_ff, ev_tmp, ev_const, ev_func, absV, depthV, upd_eq, Nat.reduceEqDiff, Nat.reduceLT, ↓reduceIte, Option.map_some, Option.bind_some, evs_nil, evs_cons, List.toList_toArray, bin_lss k_i64, bin_leq k_i64, bin_gtr k_i64, bin_geq k_i64, bin_eql k_i64, bin_neq k_i64, bin_lss k_u8, bin_leq k_u8, bin_gtr k_u8, bin_geq k_u8, bin_eql k_u8, bin_neq k_u8, bin_seql, bin_sneq, load_agg Tryz.agg60 Tryz.size60, load_one Tryz.agg9, load_one Tryz.agg3, Tryz.fa60_0, Tryz.fa60_1, Tryz.fa60_2, len_slice Tryz.underlying56, len_str Tryz.underlying9, H.lay, rowO_put, rowA_cells, Nat.zero_add, Nat.add_zero]; rfl) ?_ | refine AOps.s rfl rfl rfl ?_ | refine AOps.u rfl rfl rfl rfl (by simp only [cells_agg, cells_str, cells_int, cells_bool, cells_ptr, cells_slice, cells_map, cells_fn, op_move, op_assign, op_pick, pick_some, op_alloc, op_box, op_build, op_load, load_some, op_store, store_some, op_bin, op_un, un_not, op_fieldAddr, op_indexAddr, op_index, op_field, op_extract, extract_0, extract_1, extract_2, op_builtin, bi_len, op_func, cond_tt, cond_ff, ev_tmp, ev_const, ev_func, absV, depthV, upd_eq, Nat.reduceEqDiff, Nat.reduceLT, ↓reduceIte, Option.map_some, Option.bind_some, evs_nil, evs_cons, List.toList_toArray, bin_lss k_i64, bin_leq k_i64, bin_gtr k_i64, bin_geq k_i64, bin_eql k_i64, bin_neq k_i64, bin_lss k_u8, bin_leq k_u8, bin_gtr k_u8, bin_geq k_u8, bin_eql k_u8, bin_neq k_u8, bin_seql, bin_sneq, load_agg Tryz.agg60 Tryz.size60, load_one Tryz.agg9, load_one Tryz.agg3, Tryz.fa60_0, Tryz.fa60_1, Tryz.fa60_2, len_slice Tryz.underlying56, len_str Tryz.underlying9, H.lay, rowO_put, rowA_cells, Nat.zero_add, Nat.add_zero]; rfl) ?_))
    try
      refine AOps.c rfl rfl rfl rfl rfl (by simp only [callOf_val, callW_fn, cells_agg, cells_str, cells_int, cells_bool, cells_ptr, cells_slice, cells_map, cells_fn, op_move, op_assign, op_pick, pick_some, op_alloc, op_box, op_build, op_load, load_some, op_store, store_some, op_bin, op_un, un_not, op_fieldAddr, op_indexAddr, op_index, op_field, op_extract, extract_0, extract_1, extract_2, op_builtin, bi_len, op_func, cond_tt, cond_ff, ev_tmp, ev_const, ev_func, absV, depthV, upd_eq, Nat.reduceEqDiff, Nat.reduceLT, ↓reduceIte, Option.map_some, Option.bind_some, evs_nil, evs_cons, List.toList_toArray, bin_lss k_i64, bin_leq k_i64, bin_gtr k_i64, bin_geq k_i64, bin_eql k_i64, bin_neq k_i64, bin_lss k_u8, bin_leq k_u8, bin_gtr k_u8, bin_geq k_u8, bin_eql k_u8, bin_neq k_u8, bin_seql, bin_sneq]; rfl) rfl (Tryz.lexName _ h2 b2 _) ?_; rintro _ _ ⟨rfl, rfl⟩
      rw [e2]
      (repeat (first | refine AOps.v rfl rfl rfl rfl rfl (by simp only [cells_agg, cells_str, cells_int, cells_bool, cells_ptr, cells_slice, cells_map, cells_fn, op_move, op_assign, op_pick, pick_some, op_alloc, op_box, op_build, op_load, load_some, op_store, store_some, op_bin, op_un, un_not, op_fieldAddr, op_indexAddr, op_index, op_field, op_extract, extract_0, extract_1, extract_2, op_builtin, bi_len, op_func, cond_tt, cond_ff, ev_tmp, ev_const, ev_func, absV, depthV, upd_eq, Nat.reduceEqDiff, Nat.reduceLT, ↓reduceIte, Option.map_some, Option.bind_some, evs_nil, evs_cons, List.toList_toArray, bin_lss k_i64, bin_leq k_i64, bin_gtr k_i64, bin_geq k_i64, bin_eql k_i64, bin_neq k_i64, bin_lss k_u8, bin_leq k_u8, bin_gtr k_u8, bin_geq k_u8, bin_eql k_u8, bin_neq k_u8, bin_seql, bin_sneq, load_agg Tryz.agg60 Tryz.size60, load_one Tryz.agg9, load_one Tryz.agg3, Tryz.fa60_0, Tryz.fa60_1, Tryz.fa60_2, len_slice Tryz.underlying56, len_str Tryz.underlying9, H.lay, rowO_put, rowA_cells, Nat.zero_add, Nat.add_zero, e3]; rfl) ?_ | refine AOps.s rfl rfl rfl ?_ | refine AOps.u rfl rfl rfl rfl (by simp only [cells_agg, cells_str, cells_int, cells_bool, cells_ptr, cells_slice, cells_map, cells_fn, op_move, op_assign, op_pick, pick_some, op_alloc, op_box, op_build, op_load, load_some, op_store, store_some, op_bin, op_un, un_not, op_fieldAddr, op_indexAddr, op_index, op_field, op_extract, extract_0, extract_1, extract_2, op_builtin, bi_len, op_func, cond_tt, cond_ff, ev_tmp, ev_const, ev_func, absV, depthV, upd_eq, Nat.reduceEqDiff, Nat.reduceLT, ↓reduceIte, Option.map_some, Option.bind_some, evs_nil, evs_cons, List.toList_toArray, bin_lss k_i64, bin_leq k_i64, bin_gtr k_i64, bin_geq k_i64, bin_eql k_i64, bin_neq k_i64, bin_lss k_u8, bin_leq k_u8, bin_gtr k_u8, bin_geq k_u8, bin_eql k_u8, bin_neq k_u8, bin_seql, bin_sneq, load_agg Tryz.agg60 Tryz.size60, load_one Tryz.agg9, load_one Tryz.agg3, Tryz.fa60_0, Tryz.fa60_1, Tryz.fa60_2, len_slice Tryz.underlying56, len_str Tryz.underlying9, H.lay, rowO_put, rowA_cells, Nat.zero_add, Nat.add_zero, e3]; rfl) ?_))
    try
      refine AOps.c rfl rfl rfl rfl rfl (by simp only [callOf_val, callW_fn, cells_agg, cells_str, cells_int, cells_bool, cells_ptr, cells_slice, cells_map, cells_fn, op_move, op_assign, op_pick, pick_some, op_alloc, op_box, op_build, op_load, load_some, op_store, store_some, op_bin, op_un, un_not, op_fieldAddr, op_indexAddr, op_index, op_field, op_extract, extract_0, extract_1, extract_2, op_builtin, bi_len, op_func, cond_tt, cond_ff, ev_tmp, ev_const, ev_func, absV, depthV, upd_eq, Nat.reduceEqDiff, Nat.reduceLT, ↓reduceIte, Option.map_some, Option.bind_some, evs_nil, evs_cons, List.toList_toArray, bin_lss k_i64, bin_leq k_i64, bin_gtr k_i64, bin_geq k_i64, bin_eql k_i64, bin_neq k_i64, bin_lss k_u8, bin_leq k_u8, bin_gtr k_u8, bin_geq k_u8, bin_eql k_u8, bin_neq k_u8, bin_seql, bin_sneq]; rfl) rfl (Tryz.isAmount _ _) ?_; rintro _ _ ⟨rfl, rfl⟩
      rw [e4]
      (repeat (first | refine AOps.v rfl rfl rfl rfl rfl (by simp only [cells_agg, cells_str, cells_int, cells_bool, cells_ptr, cells_slice, cells_map, cells_fn, op_move, op_assign, op_pick, pick_some, op_alloc, op_box, op_build, op_load, load_some, op_store, store_some, op_bin, op_un, un_not, op_fieldAddr, op_indexAddr, op_index, op_field, op_extract, extract_0, extract_1, extract_2, op_builtin, bi_len, op_func, cond_tt, cond_ff, ev_tmp, ev_const, ev_func, absV, depthV, upd_eq, Nat.reduceEqDiff, Nat.reduceLT, ↓reduceIte, Option.map_some, Option.bind_some, evs_nil, evs_cons, List.toList_toArray, bin_lss k_i64, bin_leq k_i64, bin_gtr k_i64, bin_geq k_i64, bin_eql k_i64, bin_neq k_i64, bin_lss k_u8, bin_leq k_u8, bin_gtr k_u8, bin_geq k_u8, bin_eql k_u8, bin_neq k_u8, bin_seql, bin_sneq, load_agg Tryz.agg60 Tryz.size60, load_one Tryz.agg9, load_one Tryz.agg3, Tryz.fa60_0, Tryz.fa60_1, Tryz.fa60_2, len_slice Tryz.underlying56, len_str Tryz.underlying9, H.lay, rowO_put, rowA_cells, Nat.zero_add, Nat.add_zero, e3]; rfl) ?_ | refine AOps.s rfl rfl rfl ?_ | refine AOps.u rfl rfl rfl rfl (by simp only [cells_agg, cells_str, cells_int, cells_bool, cells_ptr, cells_slice, cells_map, cells_fn, op_move, op_assign, op_pick, pick_some, op_alloc, op_box, op_build, op_load, load_some, op_store, store_some, op_bin, op_un, un_not, op_fieldAddr, op_indexAddr, op_index, op_field, op_extract, extract_0, extract_1, extract_2, op_builtin, bi_len, op_func, cond_tt, cond_ff, ev_tmp, ev_const, ev_func, absV, depthV, upd_eq, Nat.reduceEqDiff, Nat.reduceLT, ↓reduceIte, Option.map_some, Option.bind_some, evs_nil, evs_cons, List.toList_toArray, bin_lss k_i64, bin_leq k_i64, bin_gtr k_i64, bin_geq k_i64, bin_eql k_i64, bin_neq k_i64, bin_lss k_u8, bin_leq k_u8, bin_gtr k_u8, bin_geq k_u8, bin_eql k_u8, bin_neq k_u8, bin_seql, bin_sneq, load_agg Tryz.agg60 Tryz.size60, load_one Tryz.agg9, load_one Tryz.agg3, Tryz.fa60_0, Tryz.fa60_1, Tryz.fa60_2, len_slice Tryz.underlying56, len_str Tryz.underlying9, H.lay, rowO_put, rowA_cells, Nat.zero_add, Nat.add_zero, e3]; rfl) ?_))
    refine AOps.nil (AWp.ret ?_)
    (try simp only [OutOf, Then, Round, NoGoto]); refine leaves_plain (by rfl) (by rfl) (fun _ => rfl) (by rfl) ⟨?_, rfl⟩; rfl

end Go.Proofs

/- Seat r1: nets of lists of transfers, in plain words. No conditions beyond those that each theorem states. -/
namespace Go.Proofs
open Go.Ev

/-- What one transfer does to the sums. -/
def netF (ml : List (List Nat × Int)) (t : Xf) : List (List Nat × Int) :=
  putM t.fr (getM 0 t.fr (putM t.to (getM 0 t.to ml + t.am) ml) - t.am) (putM t.to (getM 0 t.to ml + t.am) ml)
def netB (ts : List Xf) : List (List Nat × Int) := ts.foldl netF []

theorem netB_snoc (ts : List Xf) (t : Xf) : netB (ts ++ [t]) = netF (netB ts) t := by unfold netB; rw [List.foldl_append]; rfl

theorem netF_get (ml : List (List Nat × Int)) (t : Xf) (p : List Nat) : getM 0 p (netF ml t) = getM 0 p ml + balE t p := by
  unfold netF balE
  rw [getM_put, getM_put, getM_put]
  by_cases h1 : p = t.fr <;> by_cases h2 : p = t.to <;> by_cases h3 : t.fr = t.to <;> simp [h1, h2, h3, eq_comm] <;> (try omega)

theorem netB_get (p : List Nat) : ∀ ts : List Xf, getM 0 p (netB ts) = balX ts p := by
  intro ts
  induction ts using snocRec with
  | nil => rfl
  | snoc ts t ih => rw [netB_snoc, netF_get, ih, balX_snoc]

theorem netB_nodup : ∀ ts : List Xf, nodupM (netB ts) := by
  intro ts
  induction ts using snocRec with
  | nil => exact List.nodup_nil
  | snoc ts t ih => rw [netB_snoc]; exact nodup_put (nodup_put ih)

theorem netB_len : ∀ ts : List Xf, (netB ts).length ≤ 2 * ts.length := by
  intro ts
  induction ts using snocRec with
  | nil => exact Nat.le_refl _
  | snoc ts t ih =>
    rw [netB_snoc, List.length_append, List.length_singleton]
    unfold netF
    have h1 := putM_len t.to (getM 0 t.to (netB ts) + t.am) (netB ts)
    have h2 := putM_len t.fr (getM 0 t.fr (putM t.to (getM 0 t.to (netB ts) + t.am) (netB ts)) - t.am) (putM t.to (getM 0 t.to (netB ts) + t.am) (netB ts))
    omega

def sumV (ml : List (List Nat × Int)) : Int := (ml.map (·.2)).sum

theorem sumV_put (k : List Nat) (v : Int) : ∀ ml : List (List Nat × Int), sumV (putM k v ml) = sumV ml + v - getM 0 k ml
  | [] => by simp [putM, sumV, getM]
  | e :: ml => by
    unfold putM getM
    have ih := sumV_put k v ml
    by_cases h : k = e.1
    · simp only [h, if_true]
      simp only [sumV, List.map_cons, List.sum_cons]; omega
    · simp only [h, if_false]
      simp only [sumV, List.map_cons, List.sum_cons] at ih ⊢
      omega

theorem netB_zero : ∀ ts : List Xf, sumV (netB ts) = 0 := by
  intro ts
  induction ts using snocRec with
  | nil => rfl
  | snoc ts t ih =>
    rw [netB_snoc]
    unfold netF
    rw [sumV_put, sumV_put, ih]; omega

def toS (e : List Nat × Int) : Sh := ⟨e.1, e.2⟩
def nzS (ml : List (List Nat × Int)) : List Sh := (ml.filter fun e => !decide (e.2 = 0)).map toS
def SortedS (ss : List Sh) : Prop := ss.Pairwise fun a b => ltL b.pt a.pt = false

theorem nzS_sum : ∀ ml : List (List Nat × Int), ((nzS ml).map Sh.am).sum = sumV ml
  | [] => rfl
  | e :: ml => by
    have ih := nzS_sum ml
    unfold nzS at ih ⊢
    by_cases h : e.2 = 0
    · rw [List.filter_cons, if_neg (by simp [h]), ih]; simp [sumV, h]
    · rw [List.filter_cons, if_pos (by simp [h])]
      simp only [List.map_cons, List.sum_cons, ih, sumV]; rfl

theorem nzS_mem {ml : List (List Nat × Int)} {s : Sh} : s ∈ nzS ml ↔ (s.pt, s.am) ∈ ml ∧ s.am ≠ 0 := by
  unfold nzS
  constructor
  · intro h
    obtain ⟨e, he, rfl⟩ := List.mem_map.1 h
    obtain ⟨h1, h2⟩ := List.mem_filter.1 he
    exact ⟨h1, by simpa [toS] using h2⟩
  · rintro ⟨h1, h2⟩
    exact List.mem_map.2 ⟨(s.pt, s.am), List.mem_filter.2 ⟨h1, by simpa using h2⟩, rfl⟩

theorem nzS_nodup {ml : List (List Nat × Int)} (h : nodupM ml) : ((nzS ml).map Sh.pt).Nodup := by
  unfold nzS
  rw [List.map_map]
  exact List.Nodup.sublist (List.filter_sublist.map _) h

/-- What is handed back when nothing is wrong. -/
structure GoodS (ts : List Xf) (ss : List Sh) : Prop where
  perm : ss.Perm (nzS (netB ts))
  sorted : SortedS ss

theorem GoodS.mem {ts : List Xf} {ss : List Sh} (h : GoodS ts ss) (s : Sh) : s ∈ ss ↔ s.am = balX ts s.pt ∧ s.am ≠ 0 := by
  rw [h.perm.mem_iff, nzS_mem]
  constructor
  · rintro ⟨h1, h2⟩
    have := getM_of_mem (u0 := (0 : Int)) (netB_nodup ts) h1
    rw [netB_get] at this
    exact ⟨this.symm, h2⟩
  · rintro ⟨h1, h2⟩
    refine ⟨?_, h2⟩
    have hh : hasM s.pt (netB ts) = true := by
      cases hh : hasM s.pt (netB ts)
      · have := getM_not (u0 := (0 : Int)) hh
        rw [netB_get, ← h1] at this
        exact absurd this h2
      · rfl
    have := mem_of_hasM (u0 := (0 : Int)) hh
    rw [netB_get, ← h1] at this
    exact this

theorem GoodS.sum {ts : List Xf} {ss : List Sh} (h : GoodS ts ss) : (ss.map Sh.am).sum = 0 := by
  have hs : ∀ {a b : List Int}, a.Perm b → a.sum = b.sum := by
    intro a b hp
    induction hp with
    | nil => rfl
    | cons x _ ih => simp [ih]
    | swap x y l => simp; omega
    | trans _ _ h1 h2 => exact h1.trans h2
  rw [hs (h.perm.map Sh.am), nzS_sum, netB_zero]

theorem GoodS.keys {ts : List Xf} {ss : List Sh} (h : GoodS ts ss) : (ss.map Sh.pt).Nodup := (h.perm.map _).nodup_iff.2 (nzS_nodup (netB_nodup ts))

theorem GoodS.lts {ts : List Xf} {ss : List Sh} (h : GoodS ts ss) : ss.Pairwise fun a b => ltL a.pt b.pt = true := by
  have hk := h.keys
  rw [List.Nodup, List.pairwise_map] at hk
  refine (h.sorted.and hk).imp ?_
  rintro a b ⟨h1, h2⟩
  rcases ltL_tri a.pt b.pt with g | g | g
  · exact g
  · exact absurd g h2
  · rw [h1] at g; cases g

theorem sortedS_eq : ∀ {a b : List Sh}, a.Pairwise (fun x y => ltL x.pt y.pt = true) → b.Pairwise (fun x y => ltL x.pt y.pt = true) → (∀ t, t ∈ a ↔ t ∈ b) → a = b
  | [], [], _, _, _ => rfl
  | [], t :: b, _, _, h => by have := (h t).2 (List.mem_cons_self ..); cases this
  | t :: a, [], _, _, h => by have := (h t).1 (List.mem_cons_self ..); cases this
  | s :: a, t :: b, ha, hb, h => by
    rw [List.pairwise_cons] at ha hb
    have hst : s = t := by
      rcases List.mem_cons.1 ((h s).1 (List.mem_cons_self ..)) with e | h1
      · exact e
      · rcases List.mem_cons.1 ((h t).2 (List.mem_cons_self ..)) with e | h2
        · exact e.symm
        · have k1 := ha.1 t h2
          have k2 := hb.1 s h1
          rw [ltL_asymm k1] at k2; cases k2
    subst hst
    rw [sortedS_eq ha.2 hb.2 fun t => ?_]
    constructor
    · intro ht
      rcases List.mem_cons.1 ((h t).1 (List.mem_cons_of_mem _ ht)) with e | h1
      · subst e
        have := ha.1 t ht
        rw [ltL_irrefl] at this; cases this
      · exact h1
    · intro ht
      rcases List.mem_cons.1 ((h t).2 (List.mem_cons_of_mem _ ht)) with e | h1
      · subst e
        have := hb.1 t ht
        rw [ltL_irrefl] at this; cases this
      · exact h1

theorem GoodS.same {ts us : List Xf} {ss rs : List Sh} (h : GoodS ts ss) (h' : GoodS us rs) (he : ∀ p, balX us p = balX ts p) : ss = rs := by
  refine sortedS_eq h.lts h'.lts fun s => ?_
  rw [h.mem, h'.mem, he]

theorem GoodS.none {ts : List Xf} {ss : List Sh} (h : GoodS ts ss) (he : ∀ p, balX ts p = 0) : ss = [] := by
  refine List.eq_nil_iff_forall_not_mem.2 fun s hs => ?_
  obtain ⟨h1, h2⟩ := (h.mem s).1 hs
  rw [he] at h1
  exact h2 h1

/-- Too much: so says the one net as the other. -/
theorem much_iffS (ts : List Xf) : (∃ e ∈ netB ts, 1000000000000 < e.2 ∨ e.2 < -1000000000000) ↔ ∃ p, 1000000000000 < balX ts p ∨ balX ts p < -1000000000000 := by
  constructor
  · rintro ⟨e, he, h⟩
    have h3 : getM 0 e.1 (netB ts) = e.2 := getM_of_mem (netB_nodup ts) (show (e.1, e.2) ∈ netB ts from he)
    rw [netB_get] at h3
    exact ⟨e.1, by rw [h3]; exact h⟩
  · rintro ⟨p, h⟩
    have h1 : hasM p (netB ts) = true := by
      cases hh : hasM p (netB ts)
      · have := getM_not (u0 := (0 : Int)) hh
        rw [netB_get] at this
        omega
      · rfl
    have h2 := mem_of_hasM (u0 := (0 : Int)) h1
    rw [netB_get] at h2
    exact ⟨_, h2, h⟩

end Go.Proofs

/- Seat r1: audit: a transfer made. No conditions beyond those that each theorem states. -/
namespace Go.Proofs
open Go.Ev
set_option maxRecDepth 100000

theorem Tryz.one (a b : List Nat) (n : Int) (h : H) : ACalls Tryz.prog (.func 21) [.str a, .str b, .int .i64 n] h (fun v h' => v = .agg (Xf.mk a b n).cells ∧ h' = h) := by
  refine ACalls.body (n := 11) Tryz.nogo Tryz.func21 rfl rfl ?_
  rw [argF3]
  (repeat refine AWp.seq ?_); change AWp _ _ _ _ _; refine AWp.region ?_; (repeat (first | refine AOps.v rfl rfl rfl rfl rfl (by simp only [cells_agg, cells_str, cells_int, cells_bool, cells_ptr, cells_slice, cells_map, cells_fn, op_move, op_assign, op_pick, pick_some, op_alloc, op_box, op_build, op_load, load_some, op_store, store_some, op_bin, op_un, un_not, op_fieldAddr, op_indexAddr, op_index, op_field, op_extract, extract_0, extract_1, extract_2, op_builtin, bi_len, op_func, cond_tt, cond_ff, ev_tmp, ev_const, ev_func, absV, depthV, upd_eq, Nat.reduceEqDiff, Nat.reduceLT, ↓reduceIte, Option.map_some, Option.bind_some, evs_nil, evs_cons, List.toList_toArray, bin_lss k_i64, bin_leq k_i64, bin_gtr k_i64, bin_geq k_i64, bin_eql k_i64, bin_neq k_i64, bin_lss k_u8, bin_leq k_u8, bin_gtr k_u8, bin_geq k_u8, bin_eql k_u8, bin_neq k_u8, bin_seql, bin_sneq, load_agg Tryz.agg60 Tryz.size60, load_one Tryz.agg9, load_one Tryz.agg3, Tryz.fa60_0, Tryz.fa60_1, Tryz.fa60_2, H.lay, rowO_put, rowA_cells, Nat.zero_add, Nat.add_zero, Tryz.zero60]; rfl) ?_ | refine AOps.s rfl rfl rfl ?_ | refine AOps.u rfl rfl rfl rfl (by simp only [cells_agg, cells_str, cells_int, cells_bool, cells_ptr, cells_slice, cells_map, cells_fn, op_move, op_assign, op_pick, pick_some, op_alloc, op_box, op_build, op_load, load_some, op_store, store_some, op_bin, op_un, un_not, op_fieldAddr, op_indexAddr, op_index, op_field, op_extract, extract_0, extract_1, extract_2, op_builtin, bi_len, op_func, cond_tt, cond_ff, ev_tmp, ev_const, ev_func, absV, depthV, upd_eq, Nat.reduceEqDiff, Nat.reduceLT, ↓reduceIte, Option.map_some, Option.bind_some, evs_nil, evs_cons, List.toList_toArray, bin_lss k_i64, bin_leq k_i64, bin_gtr k_i64, bin_geq k_i64, bin_eql k_i64, bin_neq k_i64, bin_lss k_u8, bin_leq k_u8, bin_gtr k_u8, bin_geq k_u8, bin_eql k_u8, bin_neq k_u8, bin_seql, bin_sneq, load_agg Tryz.agg60 Tryz.size60, load_one Tryz.agg9, load_one Tryz.agg3, Tryz.fa60_0, Tryz.fa60_1, Tryz.fa60_2, H.lay, rowO_put, rowA_cells, Nat.zero_add, Nat.add_zero, Tryz.zero60]; rfl) ?_)); refine AOps.nil ?_
  (repeat refine AWp.seq ?_)
  refine AWp.region ?_
  (repeat (first | refine AOps.v rfl rfl rfl rfl rfl (by simp only [cells_agg, cells_str, cells_int, cells_bool, cells_ptr, cells_slice, cells_map, cells_fn, op_move, op_assign, op_pick, pick_some, op_alloc, op_box, op_build, op_load, load_some, op_store, store_some, op_bin, op_un, un_not, op_fieldAddr, op_indexAddr, op_index, op_field, op_extract, extract_0, extract_1, extract_2, op_builtin, bi_len, op_func, cond_tt, cond_ff, ev_tmp, ev_const, ev_func, absV, depthV, upd_eq, Nat.reduceEqDiff, Nat.reduceLT, ↓reduceIte, Option.map_some, Option.bind_some, evs_nil, evs_cons, List.toList_toArray, bin_lss k_i64, bin_leq k_i64, bin_gtr k_i64, bin_geq k_i64, bin_eql k_i64, bin_neq k_i64, bin_lss k_u8, bin_leq k_u8, bin_gtr k_u8, bin_geq k_u8, bin_eql k_u8, bin_neq k_u8, bin_seql, bin_sneq, load_agg Tryz.agg60 Tryz.size60, load_one Tryz.agg9, load_one Tryz.agg3, Tryz.fa60_0, Tryz.fa60_1, Tryz.fa60_2, H.lay, rowO_put, rowA_cells, Nat.zero_add, Nat.add_zero, partsA_cons, partsA_nil, build60]; rfl) ?_ | refine AOps.s rfl rfl rfl ?_ | refine AOps.u rfl rfl rfl rfl (by simp only [cells_agg, cells_str, cells_int, cells_bool, cells_ptr, cells_slice, cells_map, cells_fn, op_move, op_assign, op_pick, pick_some, op_alloc, op_box, op_build, op_load, load_some, op_store, store_some, op_bin, op_un, un_not, op_fieldAddr, op_indexAddr, op_index, op_field, op_extract, extract_0, extract_1, extract_2, op_builtin, bi_len, op_func, cond_tt, cond_ff, ev_tmp, ev_const, ev_func, absV, depthV, upd_eq, Nat.reduceEqDiff, Nat.reduceLT, ↓reduceIte, Option.map_some, Option.bind_some, evs_nil, evs_cons, List.toList_toArray, bin_lss k_i64, bin_leq k_i64, bin_gtr k_i64, bin_geq k_i64, bin_eql k_i64, bin_neq k_i64, bin_lss k_u8, bin_leq k_u8, bin_gtr k_u8, bin_geq k_u8, bin_eql k_u8, bin_neq k_u8, bin_seql, bin_sneq, load_agg Tryz.agg60 Tryz.size60, load_one Tryz.agg9, load_one Tryz.agg3, Tryz.fa60_0, Tryz.fa60_1, Tryz.fa60_2, H.lay, rowO_put, rowA_cells, Nat.zero_add, Nat.add_zero, partsA_cons, partsA_nil, build60]; rfl) ?_))
  refine AOps.st rfl rfl rfl (by simp only [cells_agg, cells_str, cells_int, cells_bool, cells_ptr, cells_slice, cells_map, cells_fn, op_move, op_assign, op_pick, pick_some, op_alloc, op_box, op_build, op_load, load_some, op_store, store_some, op_bin, op_un, un_not, op_fieldAddr, op_indexAddr, op_index, op_field, op_extract, extract_0, extract_1, extract_2, op_builtin, bi_len, op_func, cond_tt, cond_ff, ev_tmp, ev_const, ev_func, absV, depthV, upd_eq, Nat.reduceEqDiff, Nat.reduceLT, ↓reduceIte, Option.map_some, Option.bind_some, evs_nil, evs_cons, List.toList_toArray, bin_lss k_i64, bin_leq k_i64, bin_gtr k_i64, bin_geq k_i64, bin_eql k_i64, bin_neq k_i64, bin_lss k_u8, bin_leq k_u8, bin_gtr k_u8, bin_geq k_u8, bin_eql k_u8, bin_neq k_u8, bin_seql, bin_sneq]; rfl) (by simp only [cells_agg, cells_str, cells_int, cells_bool, cells_ptr, cells_slice, cells_map, cells_fn, op_move, op_assign, op_pick, pick_some, op_alloc, op_box, op_build, op_load, load_some, op_store, store_some, op_bin, op_un, un_not, op_fieldAddr, op_indexAddr, op_index, op_field, op_extract, extract_0, extract_1, extract_2, op_builtin, bi_len, op_func, cond_tt, cond_ff, ev_tmp, ev_const, ev_func, absV, depthV, upd_eq, Nat.reduceEqDiff, Nat.reduceLT, ↓reduceIte, Option.map_some, Option.bind_some, evs_nil, evs_cons, List.toList_toArray, bin_lss k_i64, bin_leq k_i64, bin_gtr k_i64, bin_geq k_i64, bin_eql k_i64, bin_neq k_i64, bin_lss k_u8, bin_leq k_u8, bin_gtr k_u8, bin_geq k_u8, bin_eql k_u8, bin_neq k_u8, bin_seql, bin_sneq]; rfl) (by exact Tryz.size60) (by simp only [H.lay, put_get]; rfl) (by simp only [H.lay, put_get]; rfl) (by rfl) (by rfl) (cs' := (Xf.mk a b n).cells) (by rfl) (minN_self _) ?_
  refine AOps.nil ?_
  refine AWp.ret ?_
  (try simp only [OutOf, Then, Round, NoGoto])
  refine leaves_plain (v := .agg (Xf.mk a b n).cells) (by rfl) ?_ (fun _ => rfl) (by rfl) ⟨rfl, rfl⟩
  show resultsA _ _ _ [ResultVar.cell 6 60] = _
  have hch : chunkL (Xf.mk a b n).cells 0 3 = some (Xf.mk a b n).cells := rfl
  simp only [resultsA, List.mapM_cons, List.mapM_nil, cells_agg, cells_str, cells_int, cells_bool, cells_ptr, cells_slice, cells_map, cells_fn, op_move, op_assign, op_pick, pick_some, op_alloc, op_box, op_build, op_load, load_some, op_store, store_some, op_bin, op_un, un_not, op_fieldAddr, op_indexAddr, op_index, op_field, op_extract, extract_0, extract_1, extract_2, op_builtin, bi_len, op_func, cond_tt, cond_ff, ev_tmp, ev_const, ev_func, absV, depthV, upd_eq, Nat.reduceEqDiff, Nat.reduceLT, ↓reduceIte, Option.map_some, Option.bind_some, evs_nil, evs_cons, List.toList_toArray, bin_lss k_i64, bin_leq k_i64, bin_gtr k_i64, bin_geq k_i64, bin_eql k_i64, bin_neq k_i64, bin_lss k_u8, bin_leq k_u8, bin_gtr k_u8, bin_geq k_u8, bin_eql k_u8, bin_neq k_u8, bin_seql, bin_sneq, load_agg Tryz.agg60 Tryz.size60, load_one Tryz.agg9, load_one Tryz.agg3, Tryz.fa60_0, Tryz.fa60_1, Tryz.fa60_2, H.lay, rowO_put, rowA_cells, Nat.zero_add, Nat.add_zero, hch]
  rfl

end Go.Proofs

/- Seat r1: audit.Net. No conditions beyond those that each theorem states. -/
namespace Go.Proofs
open Go.Ev
set_option maxRecDepth 100000

abbrev strAV (s : List Nat) : AV := .str s

theorem Tryz.keysS : Keys Tryz.prog 9 strAV where
  eq := fun a b => by
    simp only [eqA, Tryz.underlying9, eqL_eq]
  ck := fun a => by
    simp only [keyA, ckA, Tryz.underlying9]
  st := fun a => by
    simp only [stays, plainK, eqTop, eqL_eq, decide_true, Bool.and_true]
    rfl

theorem un_neg {n : Int} (h : -9223372036854775807 ≤ n ∧ n ≤ 9223372036854775807) : unA .neg (.int .i64 n) = some (.int .i64 (-n)) := by
  have l1 : leI (-9223372036854775808) (-n) = true := by rw [leI_eq]; simp; omega
  have l2 : leI (-n) 9223372036854775807 = true := by rw [leI_eq]; simp; omega
  have e0 : (0 : Int) - n = -n := by omega
  simp only [unA, wrapA, loK, hiK, e0, l1, l2, Bool.and_self, cond_tt]

noncomputable def backS (h : H) (ts : List Sh) : AV × H := if ts = [] then (.slice none 0 0 (some 0), h) else (.slice (some (h.next, 0)) ts.length 2 none, layAll [(ts.map Sh.cells).flatten] h)

/-- What audit.Net hands back. -/
def NetQ (h : H) (ts : List Xf) (v : AV) (h' : H) : Prop :=
  ((ts.any fun t => !t.ok) = true ∧ v = .tup [.slice none 0 0 (some 0), .int .i64 1] ∧ h' = h) ∨
  ((ts.any fun t => !t.ok) = false ∧ (((∃ e ∈ netB ts, 1000000000000 < e.2 ∨ e.2 < -1000000000000) ∧ v = .tup [.slice none 0 0 (some 0), .int .i64 13] ∧ h' = h) ∨
    ((¬ ∃ e ∈ netB ts, 1000000000000 < e.2 ∨ e.2 < -1000000000000) ∧ ∃ ss, GoodS ts ss ∧ v = .tup [(backS h ss).1, .int .i64 0] ∧ h' = (backS h ss).2)))

/-- What is asked of slices.SortFunc. -/
def SortSaidS : Prop := ∀ (ss : List Sh) (v : AV) (Z : Nat) (h : H), OutAt Z h v 2 (ss.map Sh.cells) → ss.length ≤ 1000000 →
  ACalls Tryz.prog (.func 43) [v, .fn (.func 44) [] []] h (fun r h' => r = .tup [] ∧ ∃ ss', ss'.Perm ss ∧ SortedS ss' ∧ OutAt Z h' v 2 (ss'.map Sh.cells) ∧ Over Z h h')

theorem Tryz.zero31 : zeroA Tryz.prog 31 = some (.slice none 0 0 (some 0)) := by kernel_rfl
theorem Tryz.zero36 : zeroA Tryz.prog 36 = some (.agg [.str [], .int .i64 0]) := by kernel_rfl
theorem Tryz.info36 : Tryz.prog.info? 36 = some Tryz.t36 := by kernel_rfl
theorem build36 (a : List Nat) (n : Int) : buildA Tryz.prog 36 [(0, .str a), (1, .int .i64 n)] = some (.agg (Sh.mk a n).cells) := by kernel_rfl
theorem buildS31 (a : List Nat) (n : Int) : buildSliceA Tryz.prog 31 1 [(0, .agg (Sh.mk a n).cells)] = some (2, (Sh.mk a n).cells) := by kernel_rfl
theorem plain_cellsS (t : Sh) : t.cells.all (plainA 4) = true := rfl

theorem nzS_snoc (l : List (List Nat × Int)) (e : List Nat × Int) : nzS (l ++ [e]) = if e.2 = 0 then nzS l else nzS l ++ [toS e] := by
  unfold nzS
  rw [List.filter_append]
  by_cases h : e.2 = 0 <;> simp [h]

set_option maxHeartbeats 4000000 in
theorem Tryz.net (hsort : SortSaidS) (ts : List Xf) (hfit : ∀ t ∈ ts, t.fits) (hlen : ts.length ≤ 500) (v : AV) (h : H) (hv : RdX h v ts) : ACalls Tryz.prog (.func 20) [v] h (NetQ h ts) := by
  refine ACalls.body (n := 58) Tryz.nogo Tryz.func20 rfl rfl ?_
  rw [argF1]
  obtain ⟨lo, le, lc, rfl⟩ := hv.len
  rw [List.length_map] at hv ⊢
  have hv0 : RdX ⟨h.objs, h.fams, h.next, h.next⟩ (.slice lo ts.length le lc) ts := ⟨hv.wide, hv.at'⟩
  (repeat refine AWp.seq ?_); change AWp _ _ _ _ _; refine AWp.region ?_; (repeat (first | refine AOps.v rfl rfl rfl rfl rfl (by simp only [cells_agg, cells_str, cells_int, cells_bool, cells_ptr, cells_slice, cells_map, cells_fn, op_move, op_assign, op_pick, pick_some, op_alloc, op_box, op_build, op_load, load_some, op_store, store_some, op_bin, op_un, un_not, op_fieldAddr, op_indexAddr, op_index, op_field, op_extract, extract_0, extract_1, extract_2, op_builtin, bi_len, op_func, cond_tt, cond_ff, ev_tmp, ev_const, ev_func, absV, depthV, upd_eq, Nat.reduceEqDiff, Nat.reduceLT, ↓reduceIte, Option.map_some, Option.bind_some, evs_nil, evs_cons, List.toList_toArray, bin_lss k_i64, bin_leq k_i64, bin_gtr k_i64, bin_geq k_i64, bin_eql k_i64, bin_neq k_i64, bin_lss k_u8, bin_leq k_u8, bin_gtr k_u8, bin_geq k_u8, bin_eql k_u8, bin_neq k_u8, bin_seql, bin_sneq]; rfl) ?_ | refine AOps.s rfl rfl rfl ?_ | refine AOps.u rfl rfl rfl rfl (by simp only [cells_agg, cells_str, cells_int, cells_bool, cells_ptr, cells_slice, cells_map, cells_fn, op_move, op_assign, op_pick, pick_some, op_alloc, op_box, op_build, op_load, load_some, op_store, store_some, op_bin, op_un, un_not, op_fieldAddr, op_indexAddr, op_index, op_field, op_extract, extract_0, extract_1, extract_2, op_builtin, bi_len, op_func, cond_tt, cond_ff, ev_tmp, ev_const, ev_func, absV, depthV, upd_eq, Nat.reduceEqDiff, Nat.reduceLT, ↓reduceIte, Option.map_some, Option.bind_some, evs_nil, evs_cons, List.toList_toArray, bin_lss k_i64, bin_leq k_i64, bin_gtr k_i64, bin_geq k_i64, bin_eql k_i64, bin_neq k_i64, bin_lss k_u8, bin_leq k_u8, bin_gtr k_u8, bin_geq k_u8, bin_eql k_u8, bin_neq k_u8, bin_seql, bin_sneq]; rfl) ?_)); refine AOps.nil ?_
  (repeat refine AWp.seq ?_); change AWp _ _ _ _ _; refine AWp.region ?_; (repeat (first | refine AOps.v rfl rfl rfl rfl rfl (by simp only [cells_agg, cells_str, cells_int, cells_bool, cells_ptr, cells_slice, cells_map, cells_fn, op_move, op_assign, op_pick, pick_some, op_alloc, op_box, op_build, op_load, load_some, op_store, store_some, op_bin, op_un, un_not, op_fieldAddr, op_indexAddr, op_index, op_field, op_extract, extract_0, extract_1, extract_2, op_builtin, bi_len, op_func, cond_tt, cond_ff, ev_tmp, ev_const, ev_func, absV, depthV, upd_eq, Nat.reduceEqDiff, Nat.reduceLT, ↓reduceIte, Option.map_some, Option.bind_some, evs_nil, evs_cons, List.toList_toArray, bin_lss k_i64, bin_leq k_i64, bin_gtr k_i64, bin_geq k_i64, bin_eql k_i64, bin_neq k_i64, bin_lss k_u8, bin_leq k_u8, bin_gtr k_u8, bin_geq k_u8, bin_eql k_u8, bin_neq k_u8, bin_seql, bin_sneq, op_makeMap, H.lay]; rfl) ?_ | refine AOps.s rfl rfl rfl ?_ | refine AOps.u rfl rfl rfl rfl (by simp only [cells_agg, cells_str, cells_int, cells_bool, cells_ptr, cells_slice, cells_map, cells_fn, op_move, op_assign, op_pick, pick_some, op_alloc, op_box, op_build, op_load, load_some, op_store, store_some, op_bin, op_un, un_not, op_fieldAddr, op_indexAddr, op_index, op_field, op_extract, extract_0, extract_1, extract_2, op_builtin, bi_len, op_func, cond_tt, cond_ff, ev_tmp, ev_const, ev_func, absV, depthV, upd_eq, Nat.reduceEqDiff, Nat.reduceLT, ↓reduceIte, Option.map_some, Option.bind_some, evs_nil, evs_cons, List.toList_toArray, bin_lss k_i64, bin_leq k_i64, bin_gtr k_i64, bin_geq k_i64, bin_eql k_i64, bin_neq k_i64, bin_lss k_u8, bin_leq k_u8, bin_gtr k_u8, bin_geq k_u8, bin_eql k_u8, bin_neq k_u8, bin_seql, bin_sneq, op_makeMap, H.lay]; rfl) ?_)); refine AOps.nil ?_
  (repeat refine AWp.seq ?_); change AWp _ _ _ _ _; refine AWp.region ?_; (repeat (first | refine AOps.v rfl rfl rfl rfl rfl (by simp only [cells_agg, cells_str, cells_int, cells_bool, cells_ptr, cells_slice, cells_map, cells_fn, op_move, op_assign, op_pick, pick_some, op_alloc, op_box, op_build, op_load, load_some, op_store, store_some, op_bin, op_un, un_not, op_fieldAddr, op_indexAddr, op_index, op_field, op_extract, extract_0, extract_1, extract_2, op_builtin, bi_len, op_func, cond_tt, cond_ff, ev_tmp, ev_const, ev_func, absV, depthV, upd_eq, Nat.reduceEqDiff, Nat.reduceLT, ↓reduceIte, Option.map_some, Option.bind_some, evs_nil, evs_cons, List.toList_toArray, bin_lss k_i64, bin_leq k_i64, bin_gtr k_i64, bin_geq k_i64, bin_eql k_i64, bin_neq k_i64, bin_lss k_u8, bin_leq k_u8, bin_gtr k_u8, bin_geq k_u8, bin_eql k_u8, bin_neq k_u8, bin_seql, bin_sneq, load_agg Tryz.agg60 Tryz.size60, load_one Tryz.agg9, load_one Tryz.agg3, load_one Tryz.agg56, Tryz.fa60_0, Tryz.fa60_1, Tryz.fa60_2, len_slice Tryz.underlying56, len_slice Tryz.underlying31, H.lay, rowO_put, rowA_cells, Nat.zero_add, Nat.add_zero, ↓reduceIte]; rfl) ?_ | refine AOps.s rfl rfl rfl ?_ | refine AOps.u rfl rfl rfl rfl (by simp only [cells_agg, cells_str, cells_int, cells_bool, cells_ptr, cells_slice, cells_map, cells_fn, op_move, op_assign, op_pick, pick_some, op_alloc, op_box, op_build, op_load, load_some, op_store, store_some, op_bin, op_un, un_not, op_fieldAddr, op_indexAddr, op_index, op_field, op_extract, extract_0, extract_1, extract_2, op_builtin, bi_len, op_func, cond_tt, cond_ff, ev_tmp, ev_const, ev_func, absV, depthV, upd_eq, Nat.reduceEqDiff, Nat.reduceLT, ↓reduceIte, Option.map_some, Option.bind_some, evs_nil, evs_cons, List.toList_toArray, bin_lss k_i64, bin_leq k_i64, bin_gtr k_i64, bin_geq k_i64, bin_eql k_i64, bin_neq k_i64, bin_lss k_u8, bin_leq k_u8, bin_gtr k_u8, bin_geq k_u8, bin_eql k_u8, bin_neq k_u8, bin_seql, bin_sneq, load_agg Tryz.agg60 Tryz.size60, load_one Tryz.agg9, load_one Tryz.agg3, load_one Tryz.agg56, Tryz.fa60_0, Tryz.fa60_1, Tryz.fa60_2, len_slice Tryz.underlying56, len_slice Tryz.underlying31, H.lay, rowO_put, rowA_cells, Nat.zero_add, Nat.add_zero, ↓reduceIte]; rfl) ?_)); refine AOps.nil ?_
  have hA0 : MapAt strAV intAV (Tr.put h.objs h.next (some (.map [] 0))) h.next (netB (ts.take 0)) := by
    unfold MapAt; rw [put_same]; rfl
  have hov0 : Over h.next ⟨h.objs, h.fams, h.next, h.next⟩ ⟨Tr.put h.objs h.next (some (.map [] 0)), h.fams, h.next + 1, h.next⟩ :=
    ⟨Nat.le_succ _, fun j hj => put_other _ _ (by omega), fun _ _ => rfl, fun _ => rfl⟩
  generalize Tr.put h.objs h.next (some (.map [] 0)) = O0 at hA0 hov0 ⊢
  refine AWp.block (AWp.loop (fun m st => ∃ (k kn : Nat) (o : Tr AO) (fm : Tr (Nat × Nat)), k ≤ ts.length ∧ m = ts.length - k ∧ Over h.next ⟨h.objs, h.fams, h.next, h.next⟩ ⟨o, fm, kn, h.next⟩ ∧ h.next + 1 ≤ kn ∧ MapAt strAV intAV o h.next (netB (ts.take k)) ∧ (∀ t ∈ ts.take k, t.ok = true) ∧
    Fr st [(2, .slice none 0 0 (some 0)), (3, .int .i64 0), (4, .map (some h.next)), (11, .slice lo ts.length le lc), (12, .int .i64 (ts.length : Int)), (13, .int .i64 (k : Int))] 58 ⟨o, fm, kn, h.next⟩ []) ts.length ?_ ?_)
  · refine ⟨0, h.next + 1, O0, h.fams, by omega, by omega, hov0, Nat.le_refl _, hA0, fun t ht => (List.not_mem_nil ht).elim, rfl, rfl, rfl, rfl, rfl, rfl, rfl, rfl, rfl, trivial⟩
  rintro m st ⟨k, kn, o, fm, hk, rfl, hov, hkn, hmA, hok, hF⟩
  obtain ⟨f, rfl⟩ := hF.open
  simp only [updL]
  by_cases hlt : k < ts.length
  · have c1 : decide ((k : Int) < (ts.length : Int)) = true := by simp only [decide_eq_true_eq]; omega
    obtain ⟨t, ht⟩ : ∃ t, ts[k]? = some t := ⟨ts[k], List.getElem?_eq_getElem hlt⟩
    have htm := List.mem_of_getElem? ht
    obtain ⟨id, off, cap, cs, hv', hid0, hrow0, hcl, hch, hcell⟩ := hv0.open (i := k) (by rw [List.length_map]; exact hlt)
    rw [List.length_map] at hv'
    cases hv'
    simp only at hrow0 hid0
    have kc := hch _ _ (rows_get ts ht)
    have hrow : rowO o id = some cs := by unfold rowO; rw [hov.objs id hid0]; exact hrow0
    (repeat refine AWp.seq ?_); change AWp _ _ _ _ _; refine AWp.region ?_; (repeat (first | refine AOps.v rfl rfl rfl rfl rfl (by simp only [cells_agg, cells_str, cells_int, cells_bool, cells_ptr, cells_slice, cells_map, cells_fn, op_move, op_assign, op_pick, pick_some, op_alloc, op_box, op_build, op_load, load_some, op_store, store_some, op_bin, op_un, un_not, op_fieldAddr, op_indexAddr, op_index, op_field, op_extract, extract_0, extract_1, extract_2, op_builtin, bi_len, op_func, cond_tt, cond_ff, ev_tmp, ev_const, ev_func, absV, depthV, upd_eq, Nat.reduceEqDiff, Nat.reduceLT, ↓reduceIte, Option.map_some, Option.bind_some, evs_nil, evs_cons, List.toList_toArray, bin_lss k_i64, bin_leq k_i64, bin_gtr k_i64, bin_geq k_i64, bin_eql k_i64, bin_neq k_i64, bin_lss k_u8, bin_leq k_u8, bin_gtr k_u8, bin_geq k_u8, bin_eql k_u8, bin_neq k_u8, bin_seql, bin_sneq, load_agg Tryz.agg60 Tryz.size60, load_one Tryz.agg9, load_one Tryz.agg3, load_one Tryz.agg56, Tryz.fa60_0, Tryz.fa60_1, Tryz.fa60_2, len_slice Tryz.underlying56, len_slice Tryz.underlying31, H.lay, rowO_put, rowA_cells, Nat.zero_add, Nat.add_zero, ↓reduceIte, c1]; rfl) ?_ | refine AOps.s rfl rfl rfl ?_ | refine AOps.u rfl rfl rfl rfl (by simp only [cells_agg, cells_str, cells_int, cells_bool, cells_ptr, cells_slice, cells_map, cells_fn, op_move, op_assign, op_pick, pick_some, op_alloc, op_box, op_build, op_load, load_some, op_store, store_some, op_bin, op_un, un_not, op_fieldAddr, op_indexAddr, op_index, op_field, op_extract, extract_0, extract_1, extract_2, op_builtin, bi_len, op_func, cond_tt, cond_ff, ev_tmp, ev_const, ev_func, absV, depthV, upd_eq, Nat.reduceEqDiff, Nat.reduceLT, ↓reduceIte, Option.map_some, Option.bind_some, evs_nil, evs_cons, List.toList_toArray, bin_lss k_i64, bin_leq k_i64, bin_gtr k_i64, bin_geq k_i64, bin_eql k_i64, bin_neq k_i64, bin_lss k_u8, bin_leq k_u8, bin_gtr k_u8, bin_geq k_u8, bin_eql k_u8, bin_neq k_u8, bin_seql, bin_sneq, load_agg Tryz.agg60 Tryz.size60, load_one Tryz.agg9, load_one Tryz.agg3, load_one Tryz.agg56, Tryz.fa60_0, Tryz.fa60_1, Tryz.fa60_2, len_slice Tryz.underlying56, len_slice Tryz.underlying31, H.lay, rowO_put, rowA_cells, Nat.zero_add, Nat.add_zero, ↓reduceIte, c1]; rfl) ?_)); refine AOps.nil ?_
    (repeat refine AWp.seq ?_); change AWp _ _ _ _ _; refine AWp.yes (by rfl) (by rfl) (AWp.skip ?_)
    (repeat refine AWp.seq ?_)
    refine AWp.block ?_
    (repeat refine AWp.seq ?_)
    refine AWp.region ?_
    (repeat (first | refine AOps.v rfl rfl rfl rfl rfl (by simp only [cells_agg, cells_str, cells_int, cells_bool, cells_ptr, cells_slice, cells_map, cells_fn, op_move, op_assign, op_pick, pick_some, op_alloc, op_box, op_build, op_load, load_some, op_store, store_some, op_bin, op_un, un_not, op_fieldAddr, op_indexAddr, op_index, op_field, op_extract, extract_0, extract_1, extract_2, op_builtin, bi_len, op_func, cond_tt, cond_ff, ev_tmp, ev_const, ev_func, absV, depthV, upd_eq, Nat.reduceEqDiff, Nat.reduceLT, ↓reduceIte, Option.map_some, Option.bind_some, evs_nil, evs_cons, List.toList_toArray, bin_lss k_i64, bin_leq k_i64, bin_gtr k_i64, bin_geq k_i64, bin_eql k_i64, bin_neq k_i64, bin_lss k_u8, bin_leq k_u8, bin_gtr k_u8, bin_geq k_u8, bin_eql k_u8, bin_neq k_u8, bin_seql, bin_sneq, load_agg Tryz.agg60 Tryz.size60, load_one Tryz.agg9, load_one Tryz.agg3, load_one Tryz.agg56, Tryz.fa60_0, Tryz.fa60_1, Tryz.fa60_2, len_slice Tryz.underlying56, len_slice Tryz.underlying31, H.lay, rowO_put, rowA_cells, Nat.zero_add, Nat.add_zero, ↓reduceIte, iaddr_slice Tryz.underlying56 Tryz.size60 hlt, hrow, kc, Tryz.zero60]; rfl) ?_ | refine AOps.s rfl rfl rfl ?_ | refine AOps.u rfl rfl rfl rfl (by simp only [cells_agg, cells_str, cells_int, cells_bool, cells_ptr, cells_slice, cells_map, cells_fn, op_move, op_assign, op_pick, pick_some, op_alloc, op_box, op_build, op_load, load_some, op_store, store_some, op_bin, op_un, un_not, op_fieldAddr, op_indexAddr, op_index, op_field, op_extract, extract_0, extract_1, extract_2, op_builtin, bi_len, op_func, cond_tt, cond_ff, ev_tmp, ev_const, ev_func, absV, depthV, upd_eq, Nat.reduceEqDiff, Nat.reduceLT, ↓reduceIte, Option.map_some, Option.bind_some, evs_nil, evs_cons, List.toList_toArray, bin_lss k_i64, bin_leq k_i64, bin_gtr k_i64, bin_geq k_i64, bin_eql k_i64, bin_neq k_i64, bin_lss k_u8, bin_leq k_u8, bin_gtr k_u8, bin_geq k_u8, bin_eql k_u8, bin_neq k_u8, bin_seql, bin_sneq, load_agg Tryz.agg60 Tryz.size60, load_one Tryz.agg9, load_one Tryz.agg3, load_one Tryz.agg56, Tryz.fa60_0, Tryz.fa60_1, Tryz.fa60_2, len_slice Tryz.underlying56, len_slice Tryz.underlying31, H.lay, rowO_put, rowA_cells, Nat.zero_add, Nat.add_zero, ↓reduceIte, iaddr_slice Tryz.underlying56 Tryz.size60 hlt, hrow, kc, Tryz.zero60]; rfl) ?_))
    refine AOps.st rfl rfl rfl (by simp only [cells_agg, cells_str, cells_int, cells_bool, cells_ptr, cells_slice, cells_map, cells_fn, op_move, op_assign, op_pick, pick_some, op_alloc, op_box, op_build, op_load, load_some, op_store, store_some, op_bin, op_un, un_not, op_fieldAddr, op_indexAddr, op_index, op_field, op_extract, extract_0, extract_1, extract_2, op_builtin, bi_len, op_func, cond_tt, cond_ff, ev_tmp, ev_const, ev_func, absV, depthV, upd_eq, Nat.reduceEqDiff, Nat.reduceLT, ↓reduceIte, Option.map_some, Option.bind_some, evs_nil, evs_cons, List.toList_toArray, bin_lss k_i64, bin_leq k_i64, bin_gtr k_i64, bin_geq k_i64, bin_eql k_i64, bin_neq k_i64, bin_lss k_u8, bin_leq k_u8, bin_gtr k_u8, bin_geq k_u8, bin_eql k_u8, bin_neq k_u8, bin_seql, bin_sneq]; rfl) (by simp only [cells_agg, cells_str, cells_int, cells_bool, cells_ptr, cells_slice, cells_map, cells_fn, op_move, op_assign, op_pick, pick_some, op_alloc, op_box, op_build, op_load, load_some, op_store, store_some, op_bin, op_un, un_not, op_fieldAddr, op_indexAddr, op_index, op_field, op_extract, extract_0, extract_1, extract_2, op_builtin, bi_len, op_func, cond_tt, cond_ff, ev_tmp, ev_const, ev_func, absV, depthV, upd_eq, Nat.reduceEqDiff, Nat.reduceLT, ↓reduceIte, Option.map_some, Option.bind_some, evs_nil, evs_cons, List.toList_toArray, bin_lss k_i64, bin_leq k_i64, bin_gtr k_i64, bin_geq k_i64, bin_eql k_i64, bin_neq k_i64, bin_lss k_u8, bin_leq k_u8, bin_gtr k_u8, bin_geq k_u8, bin_eql k_u8, bin_neq k_u8, bin_seql, bin_sneq]) (v := .agg t.cells) (by exact Tryz.size60) (by simp only [H.lay, put_get]; rfl) (by simp only [H.lay, put_get]; rfl) (by rfl) (one_cells t) (cs' := t.cells) (by rfl) (minN_left (show h.next ≤ kn by omega)) ?_
    refine AOps.nil ?_
    have hO1o : ∀ j, j ≠ kn → (Tr.put (Tr.put o kn (some (.cells [.str [], .str [], .int .i64 0] kn))) kn (some (.cells t.cells kn))).get j = o.get j := fun j hj => by rw [put_other _ _ hj, put_other _ _ hj]
    have hrow1 : rowO (Tr.put (Tr.put o kn (some (.cells [.str [], .str [], .int .i64 0] kn))) kn (some (.cells t.cells kn))) kn = some t.cells := by rw [rowO_put, if_pos rfl]; rfl
    generalize Tr.put (Tr.put o kn (some (.cells [.str [], .str [], .int .i64 0] kn))) kn (some (.cells t.cells kn)) = O1 at hO1o hrow1 ⊢
    have hF1o : ∀ j, j < kn → (Tr.put fm kn (some (kn, kn))).get j = fm.get j := fun j hj => put_other _ _ (by omega)
    generalize Tr.put fm kn (some (kn, kn)) = F1 at hF1o ⊢
    have hch0 : chunkL t.cells 0 3 = some t.cells := rfl
    have hA1 : MapAt strAV intAV O1 h.next (netB (ts.take k)) := by unfold MapAt; rw [hO1o _ (by omega)]; exact hmA
    (repeat refine AWp.seq ?_); change AWp _ _ _ _ _; refine AWp.region ?_; (repeat (first | refine AOps.v rfl rfl rfl rfl rfl (by simp only [cells_agg, cells_str, cells_int, cells_bool, cells_ptr, cells_slice, cells_map, cells_fn, op_move, op_assign, op_pick, pick_some, op_alloc, op_box, op_build, op_load, load_some, op_store, store_some, op_bin, op_un, un_not, op_fieldAddr, op_indexAddr, op_index, op_field, op_extract, extract_0, extract_1, extract_2, op_builtin, bi_len, op_func, cond_tt, cond_ff, ev_tmp, ev_const, ev_func, absV, depthV, upd_eq, Nat.reduceEqDiff, Nat.reduceLT, ↓reduceIte, Option.map_some, Option.bind_some, evs_nil, evs_cons, List.toList_toArray, bin_lss k_i64, bin_leq k_i64, bin_gtr k_i64, bin_geq k_i64, bin_eql k_i64, bin_neq k_i64, bin_lss k_u8, bin_leq k_u8, bin_gtr k_u8, bin_geq k_u8, bin_eql k_u8, bin_neq k_u8, bin_seql, bin_sneq, load_agg Tryz.agg60 Tryz.size60, load_one Tryz.agg9, load_one Tryz.agg3, load_one Tryz.agg56, Tryz.fa60_0, Tryz.fa60_1, Tryz.fa60_2, len_slice Tryz.underlying56, len_slice Tryz.underlying31, H.lay, rowO_put, rowA_cells, Nat.zero_add, Nat.add_zero, ↓reduceIte, hrow1, hch0]; rfl) ?_ | refine AOps.s rfl rfl rfl ?_ | refine AOps.u rfl rfl rfl rfl (by simp only [cells_agg, cells_str, cells_int, cells_bool, cells_ptr, cells_slice, cells_map, cells_fn, op_move, op_assign, op_pick, pick_some, op_alloc, op_box, op_build, op_load, load_some, op_store, store_some, op_bin, op_un, un_not, op_fieldAddr, op_indexAddr, op_index, op_field, op_extract, extract_0, extract_1, extract_2, op_builtin, bi_len, op_func, cond_tt, cond_ff, ev_tmp, ev_const, ev_func, absV, depthV, upd_eq, Nat.reduceEqDiff, Nat.reduceLT, ↓reduceIte, Option.map_some, Option.bind_some, evs_nil, evs_cons, List.toList_toArray, bin_lss k_i64, bin_leq k_i64, bin_gtr k_i64, bin_geq k_i64, bin_eql k_i64, bin_neq k_i64, bin_lss k_u8, bin_leq k_u8, bin_gtr k_u8, bin_geq k_u8, bin_eql k_u8, bin_neq k_u8, bin_seql, bin_sneq, load_agg Tryz.agg60 Tryz.size60, load_one Tryz.agg9, load_one Tryz.agg3, load_one Tryz.agg56, Tryz.fa60_0, Tryz.fa60_1, Tryz.fa60_2, len_slice Tryz.underlying56, len_slice Tryz.underlying31, H.lay, rowO_put, rowA_cells, Nat.zero_add, Nat.add_zero, ↓reduceIte, hrow1, hch0]; rfl) ?_))
    refine AOps.c rfl rfl rfl rfl rfl (by simp only [callOf_val, callW_fn, cells_agg, cells_str, cells_int, cells_bool, cells_ptr, cells_slice, cells_map, cells_fn, op_move, op_assign, op_pick, pick_some, op_alloc, op_box, op_build, op_load, load_some, op_store, store_some, op_bin, op_un, un_not, op_fieldAddr, op_indexAddr, op_index, op_field, op_extract, extract_0, extract_1, extract_2, op_builtin, bi_len, op_func, cond_tt, cond_ff, ev_tmp, ev_const, ev_func, absV, depthV, upd_eq, Nat.reduceEqDiff, Nat.reduceLT, ↓reduceIte, Option.map_some, Option.bind_some, evs_nil, evs_cons, List.toList_toArray, bin_lss k_i64, bin_leq k_i64, bin_gtr k_i64, bin_geq k_i64, bin_eql k_i64, bin_neq k_i64, bin_lss k_u8, bin_leq k_u8, bin_gtr k_u8, bin_geq k_u8, bin_eql k_u8, bin_neq k_u8, bin_seql, bin_sneq]; rfl) rfl (Tryz.validA t (hfit t htm) _) ?_; rintro _ _ ⟨rfl, rfl⟩
    cases eok : t.ok
    · (repeat (first | refine AOps.v rfl rfl rfl rfl rfl (by simp only [cells_agg, cells_str, cells_int, cells_bool, cells_ptr, cells_slice, cells_map, cells_fn, op_move, op_assign, op_pick, pick_some, op_alloc, op_box, op_build, op_load, load_some, op_store, store_some, op_bin, op_un, un_not, op_fieldAddr, op_indexAddr, op_index, op_field, op_extract, extract_0, extract_1, extract_2, op_builtin, bi_len, op_func, cond_tt, cond_ff, ev_tmp, ev_const, ev_func, absV, depthV, upd_eq, Nat.reduceEqDiff, Nat.reduceLT, ↓reduceIte, Option.map_some, Option.bind_some, evs_nil, evs_cons, List.toList_toArray, bin_lss k_i64, bin_leq k_i64, bin_gtr k_i64, bin_geq k_i64, bin_eql k_i64, bin_neq k_i64, bin_lss k_u8, bin_leq k_u8, bin_gtr k_u8, bin_geq k_u8, bin_eql k_u8, bin_neq k_u8, bin_seql, bin_sneq]; rfl) ?_ | refine AOps.s rfl rfl rfl ?_ | refine AOps.u rfl rfl rfl rfl (by simp only [cells_agg, cells_str, cells_int, cells_bool, cells_ptr, cells_slice, cells_map, cells_fn, op_move, op_assign, op_pick, pick_some, op_alloc, op_box, op_build, op_load, load_some, op_store, store_some, op_bin, op_un, un_not, op_fieldAddr, op_indexAddr, op_index, op_field, op_extract, extract_0, extract_1, extract_2, op_builtin, bi_len, op_func, cond_tt, cond_ff, ev_tmp, ev_const, ev_func, absV, depthV, upd_eq, Nat.reduceEqDiff, Nat.reduceLT, ↓reduceIte, Option.map_some, Option.bind_some, evs_nil, evs_cons, List.toList_toArray, bin_lss k_i64, bin_leq k_i64, bin_gtr k_i64, bin_geq k_i64, bin_eql k_i64, bin_neq k_i64, bin_lss k_u8, bin_leq k_u8, bin_gtr k_u8, bin_geq k_u8, bin_eql k_u8, bin_neq k_u8, bin_seql, bin_sneq]; rfl) ?_))
      refine AOps.nil ?_
      (repeat refine AWp.seq ?_); change AWp _ _ _ _ _; refine AWp.yes (by rfl) (by rfl) ?_
      (repeat refine AWp.seq ?_); change AWp _ _ _ _ _; refine AWp.region ?_; (repeat (first | refine AOps.v rfl rfl rfl rfl rfl (by simp only [cells_agg, cells_str, cells_int, cells_bool, cells_ptr, cells_slice, cells_map, cells_fn, op_move, op_assign, op_pick, pick_some, op_alloc, op_box, op_build, op_load, load_some, op_store, store_some, op_bin, op_un, un_not, op_fieldAddr, op_indexAddr, op_index, op_field, op_extract, extract_0, extract_1, extract_2, op_builtin, bi_len, op_func, cond_tt, cond_ff, ev_tmp, ev_const, ev_func, absV, depthV, upd_eq, Nat.reduceEqDiff, Nat.reduceLT, ↓reduceIte, Option.map_some, Option.bind_some, evs_nil, evs_cons, List.toList_toArray, bin_lss k_i64, bin_leq k_i64, bin_gtr k_i64, bin_geq k_i64, bin_eql k_i64, bin_neq k_i64, bin_lss k_u8, bin_leq k_u8, bin_gtr k_u8, bin_geq k_u8, bin_eql k_u8, bin_neq k_u8, bin_seql, bin_sneq]; rfl) ?_ | refine AOps.s rfl rfl rfl ?_ | refine AOps.u rfl rfl rfl rfl (by simp only [cells_agg, cells_str, cells_int, cells_bool, cells_ptr, cells_slice, cells_map, cells_fn, op_move, op_assign, op_pick, pick_some, op_alloc, op_box, op_build, op_load, load_some, op_store, store_some, op_bin, op_un, un_not, op_fieldAddr, op_indexAddr, op_index, op_field, op_extract, extract_0, extract_1, extract_2, op_builtin, bi_len, op_func, cond_tt, cond_ff, ev_tmp, ev_const, ev_func, absV, depthV, upd_eq, Nat.reduceEqDiff, Nat.reduceLT, ↓reduceIte, Option.map_some, Option.bind_some, evs_nil, evs_cons, List.toList_toArray, bin_lss k_i64, bin_leq k_i64, bin_gtr k_i64, bin_geq k_i64, bin_eql k_i64, bin_neq k_i64, bin_lss k_u8, bin_leq k_u8, bin_gtr k_u8, bin_geq k_u8, bin_eql k_u8, bin_neq k_u8, bin_seql, bin_sneq]; rfl) ?_)); refine AOps.nil ?_
      refine AWp.ret ?_
      (try simp only [OutOf, Then, Round, NoGoto])
      exact leaves_plain (v := .tup [.slice none 0 0 (some 0), .int .i64 1]) (by rfl) (by rfl) (fun _ => rfl) (by rfl) (.inl ⟨List.any_eq_true.2 ⟨t, htm, by rw [eok]; rfl⟩, rfl, rfl⟩)
    · (repeat (first | refine AOps.v rfl rfl rfl rfl rfl (by simp only [cells_agg, cells_str, cells_int, cells_bool, cells_ptr, cells_slice, cells_map, cells_fn, op_move, op_assign, op_pick, pick_some, op_alloc, op_box, op_build, op_load, load_some, op_store, store_some, op_bin, op_un, un_not, op_fieldAddr, op_indexAddr, op_index, op_field, op_extract, extract_0, extract_1, extract_2, op_builtin, bi_len, op_func, cond_tt, cond_ff, ev_tmp, ev_const, ev_func, absV, depthV, upd_eq, Nat.reduceEqDiff, Nat.reduceLT, ↓reduceIte, Option.map_some, Option.bind_some, evs_nil, evs_cons, List.toList_toArray, bin_lss k_i64, bin_leq k_i64, bin_gtr k_i64, bin_geq k_i64, bin_eql k_i64, bin_neq k_i64, bin_lss k_u8, bin_leq k_u8, bin_gtr k_u8, bin_geq k_u8, bin_eql k_u8, bin_neq k_u8, bin_seql, bin_sneq]; rfl) ?_ | refine AOps.s rfl rfl rfl ?_ | refine AOps.u rfl rfl rfl rfl (by simp only [cells_agg, cells_str, cells_int, cells_bool, cells_ptr, cells_slice, cells_map, cells_fn, op_move, op_assign, op_pick, pick_some, op_alloc, op_box, op_build, op_load, load_some, op_store, store_some, op_bin, op_un, un_not, op_fieldAddr, op_indexAddr, op_index, op_field, op_extract, extract_0, extract_1, extract_2, op_builtin, bi_len, op_func, cond_tt, cond_ff, ev_tmp, ev_const, ev_func, absV, depthV, upd_eq, Nat.reduceEqDiff, Nat.reduceLT, ↓reduceIte, Option.map_some, Option.bind_some, evs_nil, evs_cons, List.toList_toArray, bin_lss k_i64, bin_leq k_i64, bin_gtr k_i64, bin_geq k_i64, bin_eql k_i64, bin_neq k_i64, bin_lss k_u8, bin_leq k_u8, bin_gtr k_u8, bin_geq k_u8, bin_eql k_u8, bin_neq k_u8, bin_seql, bin_sneq]; rfl) ?_))
      refine AOps.nil ?_
      (repeat refine AWp.seq ?_); change AWp _ _ _ _ _; refine AWp.no (by rfl) (by rfl) (AWp.skip ?_)
      have hokk := (ok_iff t).1 eok
      have hamk : ∀ u ∈ ts.take k, 0 ≤ u.am ∧ u.am ≤ 1000000000000 := fun u hu => by have := (ok_iff u).1 (hok u hu); exact this.2.2.2
      have htake : ((ts.take k).length : Int) ≤ 500 := by rw [List.length_take]; omega
      have bnd : ∀ p, -500000000000000 ≤ getM 0 p (netB (ts.take k)) ∧ getM 0 p (netB (ts.take k)) ≤ 500000000000000 := fun p => by
        have := balX_bnd (ts.take k) hamk p
        rw [netB_get]; omega
      have htk : netB (ts.take (k + 1)) = netF (netB (ts.take k)) t := by rw [take_snoc ht, netB_snoc]
      generalize hcur : netB (ts.take k) = cur at hA1 bnd htk
      have hf0 : t.cells[0]? = some (.str t.fr) := rfl
      have hf1 : t.cells[1]? = some (.str t.to) := rfl
      have hf2 : t.cells[2]? = some (.int .i64 t.am) := rfl
      have lk := fun fm nx lw => look_map (h := ⟨O1, fm, nx, lw⟩) (uv := intAV) (u0 := 0) Tryz.underlying101 Tryz.keysS Tryz.zero3 hA1 t.to false
      have mu := fun fm nx lw => mapUpdate_map (h := ⟨O1, fm, nx, lw⟩) (uv := intAV) Tryz.underlying101 Tryz.keysS hA1 t.to (getM 0 t.to cur + t.am)
      have b1 := bnd t.to
      have hadd := bin_add (P := Tryz.prog) (t := 3) (a := getM 0 t.to cur) (b := t.am) ⟨by omega, by omega⟩
      simp only [strAV, intAV, cond_ff] at lk mu
      (repeat refine AWp.seq ?_)
      refine AWp.region ?_
      (repeat (first | refine AOps.v rfl rfl rfl rfl rfl (by simp only [cells_agg, cells_str, cells_int, cells_bool, cells_ptr, cells_slice, cells_map, cells_fn, op_move, op_assign, op_pick, pick_some, op_alloc, op_box, op_build, op_load, load_some, op_store, store_some, op_bin, op_un, un_not, op_fieldAddr, op_indexAddr, op_index, op_field, op_extract, extract_0, extract_1, extract_2, op_builtin, bi_len, op_func, cond_tt, cond_ff, ev_tmp, ev_const, ev_func, absV, depthV, upd_eq, Nat.reduceEqDiff, Nat.reduceLT, ↓reduceIte, Option.map_some, Option.bind_some, evs_nil, evs_cons, List.toList_toArray, bin_lss k_i64, bin_leq k_i64, bin_gtr k_i64, bin_geq k_i64, bin_eql k_i64, bin_neq k_i64, bin_lss k_u8, bin_leq k_u8, bin_gtr k_u8, bin_geq k_u8, bin_eql k_u8, bin_neq k_u8, bin_seql, bin_sneq, load_agg Tryz.agg60 Tryz.size60, load_one Tryz.agg9, load_one Tryz.agg3, load_one Tryz.agg56, Tryz.fa60_0, Tryz.fa60_1, Tryz.fa60_2, len_slice Tryz.underlying56, len_slice Tryz.underlying31, H.lay, rowO_put, rowA_cells, Nat.zero_add, Nat.add_zero, ↓reduceIte, hrow1, hf0, hf1, hf2, op_lookup, lk, hadd, op_mapUpdate, mu, H.set]; rfl) ?_ | refine AOps.s rfl rfl rfl ?_ | refine AOps.u rfl rfl rfl rfl (by simp only [cells_agg, cells_str, cells_int, cells_bool, cells_ptr, cells_slice, cells_map, cells_fn, op_move, op_assign, op_pick, pick_some, op_alloc, op_box, op_build, op_load, load_some, op_store, store_some, op_bin, op_un, un_not, op_fieldAddr, op_indexAddr, op_index, op_field, op_extract, extract_0, extract_1, extract_2, op_builtin, bi_len, op_func, cond_tt, cond_ff, ev_tmp, ev_const, ev_func, absV, depthV, upd_eq, Nat.reduceEqDiff, Nat.reduceLT, ↓reduceIte, Option.map_some, Option.bind_some, evs_nil, evs_cons, List.toList_toArray, bin_lss k_i64, bin_leq k_i64, bin_gtr k_i64, bin_geq k_i64, bin_eql k_i64, bin_neq k_i64, bin_lss k_u8, bin_leq k_u8, bin_gtr k_u8, bin_geq k_u8, bin_eql k_u8, bin_neq k_u8, bin_seql, bin_sneq, load_agg Tryz.agg60 Tryz.size60, load_one Tryz.agg9, load_one Tryz.agg3, load_one Tryz.agg56, Tryz.fa60_0, Tryz.fa60_1, Tryz.fa60_2, len_slice Tryz.underlying56, len_slice Tryz.underlying31, H.lay, rowO_put, rowA_cells, Nat.zero_add, Nat.add_zero, ↓reduceIte, hrow1, hf0, hf1, hf2, op_lookup, lk, hadd, op_mapUpdate, mu, H.set]; rfl) ?_))
      refine AOps.nil ?_
      rw [minN_self]
      generalize hcur1 : putM t.to (getM 0 t.to cur + t.am) cur = cur1
      have hO2o : ∀ j, j ≠ h.next → (Tr.put O1 h.next (some (.map (encE strAV intAV 0 cur1) cur1.length))).get j = O1.get j := fun j hj => put_other _ _ hj
      have hA2 : MapAt strAV intAV (Tr.put O1 h.next (some (.map (encE strAV intAV 0 cur1) cur1.length))) h.next cur1 := mapAt_put _
      have hrow2 : rowO (Tr.put O1 h.next (some (.map (encE strAV intAV 0 cur1) cur1.length))) kn = some t.cells := by rw [rowO_put, if_neg (by omega)]; exact hrow1
      change AWp _ _ _ ⟨_, _, ⟨Tr.put O1 h.next (some (.map (encE strAV intAV 0 cur1) cur1.length)), _, _, _⟩, _⟩ _
      generalize Tr.put O1 h.next (some (.map (encE strAV intAV 0 cur1) cur1.length)) = O2 at hO2o hA2 hrow2 ⊢
      have bnd1 : ∀ p, -502000000000000 ≤ getM 0 p cur1 ∧ getM 0 p cur1 ≤ 502000000000000 := fun p => by
        rw [← hcur1, getM_put]
        have := bnd p
        split <;> omega
      have lk2 := fun fm nx lw => look_map (h := ⟨O2, fm, nx, lw⟩) (uv := intAV) (u0 := 0) Tryz.underlying101 Tryz.keysS Tryz.zero3 hA2 t.fr false
      have mu2 := fun fm nx lw => mapUpdate_map (h := ⟨O2, fm, nx, lw⟩) (uv := intAV) Tryz.underlying101 Tryz.keysS hA2 t.fr (getM 0 t.fr cur1 - t.am)
      have b2 := bnd1 t.fr
      have hsub := bin_sub (P := Tryz.prog) (t := 3) (a := getM 0 t.fr cur1) (b := t.am) ⟨by omega, by omega⟩
      simp only [strAV, intAV, cond_ff] at lk2 mu2
      (repeat refine AWp.seq ?_)
      refine AWp.region ?_
      (repeat (first | refine AOps.v rfl rfl rfl rfl rfl (by simp only [cells_agg, cells_str, cells_int, cells_bool, cells_ptr, cells_slice, cells_map, cells_fn, op_move, op_assign, op_pick, pick_some, op_alloc, op_box, op_build, op_load, load_some, op_store, store_some, op_bin, op_un, un_not, op_fieldAddr, op_indexAddr, op_index, op_field, op_extract, extract_0, extract_1, extract_2, op_builtin, bi_len, op_func, cond_tt, cond_ff, ev_tmp, ev_const, ev_func, absV, depthV, upd_eq, Nat.reduceEqDiff, Nat.reduceLT, ↓reduceIte, Option.map_some, Option.bind_some, evs_nil, evs_cons, List.toList_toArray, bin_lss k_i64, bin_leq k_i64, bin_gtr k_i64, bin_geq k_i64, bin_eql k_i64, bin_neq k_i64, bin_lss k_u8, bin_leq k_u8, bin_gtr k_u8, bin_geq k_u8, bin_eql k_u8, bin_neq k_u8, bin_seql, bin_sneq, load_agg Tryz.agg60 Tryz.size60, load_one Tryz.agg9, load_one Tryz.agg3, load_one Tryz.agg56, Tryz.fa60_0, Tryz.fa60_1, Tryz.fa60_2, len_slice Tryz.underlying56, len_slice Tryz.underlying31, H.lay, rowO_put, rowA_cells, Nat.zero_add, Nat.add_zero, ↓reduceIte, hrow2, hf0, hf1, hf2, op_lookup, lk2, hsub, op_mapUpdate, mu2, H.set]; rfl) ?_ | refine AOps.s rfl rfl rfl ?_ | refine AOps.u rfl rfl rfl rfl (by simp only [cells_agg, cells_str, cells_int, cells_bool, cells_ptr, cells_slice, cells_map, cells_fn, op_move, op_assign, op_pick, pick_some, op_alloc, op_box, op_build, op_load, load_some, op_store, store_some, op_bin, op_un, un_not, op_fieldAddr, op_indexAddr, op_index, op_field, op_extract, extract_0, extract_1, extract_2, op_builtin, bi_len, op_func, cond_tt, cond_ff, ev_tmp, ev_const, ev_func, absV, depthV, upd_eq, Nat.reduceEqDiff, Nat.reduceLT, ↓reduceIte, Option.map_some, Option.bind_some, evs_nil, evs_cons, List.toList_toArray, bin_lss k_i64, bin_leq k_i64, bin_gtr k_i64, bin_geq k_i64, bin_eql k_i64, bin_neq k_i64, bin_lss k_u8, bin_leq k_u8, bin_gtr k_u8, bin_geq k_u8, bin_eql k_u8, bin_neq k_u8, bin_seql, bin_sneq, load_agg Tryz.agg60 Tryz.size60, load_one Tryz.agg9, load_one Tryz.agg3, load_one Tryz.agg56, Tryz.fa60_0, Tryz.fa60_1, Tryz.fa60_2, len_slice Tryz.underlying56, len_slice Tryz.underlying31, H.lay, rowO_put, rowA_cells, Nat.zero_add, Nat.add_zero, ↓reduceIte, hrow2, hf0, hf1, hf2, op_lookup, lk2, hsub, op_mapUpdate, mu2, H.set]; rfl) ?_))
      refine AOps.nil ?_
      rw [minN_self]
      (repeat refine AWp.seq ?_); change AWp _ _ _ _ _; refine AWp.region ?_; (repeat (first | refine AOps.v rfl rfl rfl rfl rfl (by simp only [cells_agg, cells_str, cells_int, cells_bool, cells_ptr, cells_slice, cells_map, cells_fn, op_move, op_assign, op_pick, pick_some, op_alloc, op_box, op_build, op_load, load_some, op_store, store_some, op_bin, op_un, un_not, op_fieldAddr, op_indexAddr, op_index, op_field, op_extract, extract_0, extract_1, extract_2, op_builtin, bi_len, op_func, cond_tt, cond_ff, ev_tmp, ev_const, ev_func, absV, depthV, upd_eq, Nat.reduceEqDiff, Nat.reduceLT, ↓reduceIte, Option.map_some, Option.bind_some, evs_nil, evs_cons, List.toList_toArray, bin_lss k_i64, bin_leq k_i64, bin_gtr k_i64, bin_geq k_i64, bin_eql k_i64, bin_neq k_i64, bin_lss k_u8, bin_leq k_u8, bin_gtr k_u8, bin_geq k_u8, bin_eql k_u8, bin_neq k_u8, bin_seql, bin_sneq, bin_add (show -9223372036854775808 ≤ (k : Int) + 1 ∧ (k : Int) + 1 ≤ 9223372036854775807 from ⟨by omega, by omega⟩)]; rfl) ?_ | refine AOps.s rfl rfl rfl ?_ | refine AOps.u rfl rfl rfl rfl (by simp only [cells_agg, cells_str, cells_int, cells_bool, cells_ptr, cells_slice, cells_map, cells_fn, op_move, op_assign, op_pick, pick_some, op_alloc, op_box, op_build, op_load, load_some, op_store, store_some, op_bin, op_un, un_not, op_fieldAddr, op_indexAddr, op_index, op_field, op_extract, extract_0, extract_1, extract_2, op_builtin, bi_len, op_func, cond_tt, cond_ff, ev_tmp, ev_const, ev_func, absV, depthV, upd_eq, Nat.reduceEqDiff, Nat.reduceLT, ↓reduceIte, Option.map_some, Option.bind_some, evs_nil, evs_cons, List.toList_toArray, bin_lss k_i64, bin_leq k_i64, bin_gtr k_i64, bin_geq k_i64, bin_eql k_i64, bin_neq k_i64, bin_lss k_u8, bin_leq k_u8, bin_gtr k_u8, bin_geq k_u8, bin_eql k_u8, bin_neq k_u8, bin_seql, bin_sneq, bin_add (show -9223372036854775808 ≤ (k : Int) + 1 ∧ (k : Int) + 1 ≤ 9223372036854775807 from ⟨by omega, by omega⟩)]; rfl) ?_)); refine AOps.nil ?_
      refine ⟨ts.length - (k + 1), by omega, k + 1, kn + 1, _, _, hlt, rfl, ⟨by show h.next ≤ kn + 1; omega, fun j hj => ?_, fun j hj => ?_, fun _ => rfl⟩, by omega, ?_, ?_, rfl, rfl, rfl, rfl, rfl, rfl, rfl, rfl, rfl, trivial⟩
      · show (Tr.put O2 h.next _).get j = _
        rw [put_other _ _ (by omega), hO2o j (by omega), hO1o j (by omega)]
        exact hov.objs j hj
      · exact (hF1o j (by omega)).trans (hov.fams j hj)
      · rw [htk]
        have e1 : netF cur t = putM t.fr (getM 0 t.fr cur1 - t.am) cur1 := by unfold netF; rw [hcur1]
        rw [e1]
        exact mapAt_put _
      · intro u hu
        rw [take_snoc ht] at hu
        rcases List.mem_append.1 hu with hu | hu
        · exact hok u hu
        · rw [List.mem_singleton.1 hu]; exact eok
  · have hkk : k = ts.length := by omega
    subst hkk
    have c1 : decide ((ts.length : Int) < (ts.length : Int)) = false := by simp
    (repeat refine AWp.seq ?_); change AWp _ _ _ _ _; refine AWp.region ?_; (repeat (first | refine AOps.v rfl rfl rfl rfl rfl (by simp only [cells_agg, cells_str, cells_int, cells_bool, cells_ptr, cells_slice, cells_map, cells_fn, op_move, op_assign, op_pick, pick_some, op_alloc, op_box, op_build, op_load, load_some, op_store, store_some, op_bin, op_un, un_not, op_fieldAddr, op_indexAddr, op_index, op_field, op_extract, extract_0, extract_1, extract_2, op_builtin, bi_len, op_func, cond_tt, cond_ff, ev_tmp, ev_const, ev_func, absV, depthV, upd_eq, Nat.reduceEqDiff, Nat.reduceLT, ↓reduceIte, Option.map_some, Option.bind_some, evs_nil, evs_cons, List.toList_toArray, bin_lss k_i64, bin_leq k_i64, bin_gtr k_i64, bin_geq k_i64, bin_eql k_i64, bin_neq k_i64, bin_lss k_u8, bin_leq k_u8, bin_gtr k_u8, bin_geq k_u8, bin_eql k_u8, bin_neq k_u8, bin_seql, bin_sneq, load_agg Tryz.agg60 Tryz.size60, load_one Tryz.agg9, load_one Tryz.agg3, load_one Tryz.agg56, Tryz.fa60_0, Tryz.fa60_1, Tryz.fa60_2, len_slice Tryz.underlying56, len_slice Tryz.underlying31, H.lay, rowO_put, rowA_cells, Nat.zero_add, Nat.add_zero, ↓reduceIte, c1]; rfl) ?_ | refine AOps.s rfl rfl rfl ?_ | refine AOps.u rfl rfl rfl rfl (by simp only [cells_agg, cells_str, cells_int, cells_bool, cells_ptr, cells_slice, cells_map, cells_fn, op_move, op_assign, op_pick, pick_some, op_alloc, op_box, op_build, op_load, load_some, op_store, store_some, op_bin, op_un, un_not, op_fieldAddr, op_indexAddr, op_index, op_field, op_extract, extract_0, extract_1, extract_2, op_builtin, bi_len, op_func, cond_tt, cond_ff, ev_tmp, ev_const, ev_func, absV, depthV, upd_eq, Nat.reduceEqDiff, Nat.reduceLT, ↓reduceIte, Option.map_some, Option.bind_some, evs_nil, evs_cons, List.toList_toArray, bin_lss k_i64, bin_leq k_i64, bin_gtr k_i64, bin_geq k_i64, bin_eql k_i64, bin_neq k_i64, bin_lss k_u8, bin_leq k_u8, bin_gtr k_u8, bin_geq k_u8, bin_eql k_u8, bin_neq k_u8, bin_seql, bin_sneq, load_agg Tryz.agg60 Tryz.size60, load_one Tryz.agg9, load_one Tryz.agg3, load_one Tryz.agg56, Tryz.fa60_0, Tryz.fa60_1, Tryz.fa60_2, len_slice Tryz.underlying56, len_slice Tryz.underlying31, H.lay, rowO_put, rowA_cells, Nat.zero_add, Nat.add_zero, ↓reduceIte, c1]; rfl) ?_)); refine AOps.nil ?_
    (repeat refine AWp.seq ?_); change AWp _ _ _ _ _; refine AWp.no (by rfl) (by rfl) ?_
    refine AWp.exit ?_
    rw [List.take_length] at hmA hok
    have hodd : (ts.any fun t => !t.ok) = false := by
      rw [List.any_eq_false]; intro t ht; rw [hok t ht]; decide
    have hnd := netB_nodup ts
    have hml : (netB ts).length ≤ 1000 := by have := netB_len ts; omega
    have hamk : ∀ u ∈ ts, 0 ≤ u.am ∧ u.am ≤ 1000000000000 := fun u hu => ((ok_iff u).1 (hok u hu)).2.2.2
    have hbe : ∀ e ∈ netB ts, -500000000000000 ≤ e.2 ∧ e.2 ≤ 500000000000000 := fun e he => by
      have h1 := getM_of_mem (u0 := (0 : Int)) hnd (show (e.1, e.2) ∈ netB ts from he)
      rw [netB_get] at h1
      have h2 := balX_bnd ts hamk e.1
      omega
    generalize hal : netB ts = al at hmA hnd hml hbe
    clear hA0 hov0
    (repeat refine AWp.seq ?_); change AWp _ _ _ _ _; refine AWp.region ?_; (repeat (first | refine AOps.v rfl rfl rfl rfl rfl (by simp only [cells_agg, cells_str, cells_int, cells_bool, cells_ptr, cells_slice, cells_map, cells_fn, op_move, op_assign, op_pick, pick_some, op_alloc, op_box, op_build, op_load, load_some, op_store, store_some, op_bin, op_un, un_not, op_fieldAddr, op_indexAddr, op_index, op_field, op_extract, extract_0, extract_1, extract_2, op_builtin, bi_len, op_func, cond_tt, cond_ff, ev_tmp, ev_const, ev_func, absV, depthV, upd_eq, Nat.reduceEqDiff, Nat.reduceLT, ↓reduceIte, Option.map_some, Option.bind_some, evs_nil, evs_cons, List.toList_toArray, bin_lss k_i64, bin_leq k_i64, bin_gtr k_i64, bin_geq k_i64, bin_eql k_i64, bin_neq k_i64, bin_lss k_u8, bin_leq k_u8, bin_gtr k_u8, bin_geq k_u8, bin_eql k_u8, bin_neq k_u8, bin_seql, bin_sneq]; rfl) ?_ | refine AOps.s rfl rfl rfl ?_ | refine AOps.u rfl rfl rfl rfl (by simp only [cells_agg, cells_str, cells_int, cells_bool, cells_ptr, cells_slice, cells_map, cells_fn, op_move, op_assign, op_pick, pick_some, op_alloc, op_box, op_build, op_load, load_some, op_store, store_some, op_bin, op_un, un_not, op_fieldAddr, op_indexAddr, op_index, op_field, op_extract, extract_0, extract_1, extract_2, op_builtin, bi_len, op_func, cond_tt, cond_ff, ev_tmp, ev_const, ev_func, absV, depthV, upd_eq, Nat.reduceEqDiff, Nat.reduceLT, ↓reduceIte, Option.map_some, Option.bind_some, evs_nil, evs_cons, List.toList_toArray, bin_lss k_i64, bin_leq k_i64, bin_gtr k_i64, bin_geq k_i64, bin_eql k_i64, bin_neq k_i64, bin_lss k_u8, bin_leq k_u8, bin_gtr k_u8, bin_geq k_u8, bin_eql k_u8, bin_neq k_u8, bin_seql, bin_sneq]; rfl) ?_)); refine AOps.nil ?_
    have rg := fun fm nx lw => range_map (h := ⟨o, fm, nx, lw⟩) (kv := strAV) (uv := intAV) Tryz.underlying101 hmA
    (repeat refine AWp.seq ?_); change AWp _ _ _ _ _; refine AWp.region ?_; (repeat (first | refine AOps.v rfl rfl rfl rfl rfl (by simp only [cells_agg, cells_str, cells_int, cells_bool, cells_ptr, cells_slice, cells_map, cells_fn, op_move, op_assign, op_pick, pick_some, op_alloc, op_box, op_build, op_load, load_some, op_store, store_some, op_bin, op_un, un_not, op_fieldAddr, op_indexAddr, op_index, op_field, op_extract, extract_0, extract_1, extract_2, op_builtin, bi_len, op_func, cond_tt, cond_ff, ev_tmp, ev_const, ev_func, absV, depthV, upd_eq, Nat.reduceEqDiff, Nat.reduceLT, ↓reduceIte, Option.map_some, Option.bind_some, evs_nil, evs_cons, List.toList_toArray, bin_lss k_i64, bin_leq k_i64, bin_gtr k_i64, bin_geq k_i64, bin_eql k_i64, bin_neq k_i64, bin_lss k_u8, bin_leq k_u8, bin_gtr k_u8, bin_geq k_u8, bin_eql k_u8, bin_neq k_u8, bin_seql, bin_sneq, op_range, rg]; rfl) ?_ | refine AOps.s rfl rfl rfl ?_ | refine AOps.u rfl rfl rfl rfl (by simp only [cells_agg, cells_str, cells_int, cells_bool, cells_ptr, cells_slice, cells_map, cells_fn, op_move, op_assign, op_pick, pick_some, op_alloc, op_box, op_build, op_load, load_some, op_store, store_some, op_bin, op_un, un_not, op_fieldAddr, op_indexAddr, op_index, op_field, op_extract, extract_0, extract_1, extract_2, op_builtin, bi_len, op_func, cond_tt, cond_ff, ev_tmp, ev_const, ev_func, absV, depthV, upd_eq, Nat.reduceEqDiff, Nat.reduceLT, ↓reduceIte, Option.map_some, Option.bind_some, evs_nil, evs_cons, List.toList_toArray, bin_lss k_i64, bin_leq k_i64, bin_gtr k_i64, bin_geq k_i64, bin_eql k_i64, bin_neq k_i64, bin_lss k_u8, bin_leq k_u8, bin_gtr k_u8, bin_geq k_u8, bin_eql k_u8, bin_neq k_u8, bin_seql, bin_sneq, op_range, rg]; rfl) ?_)); refine AOps.nil ?_
    have hov5 : Over h.next ⟨h.objs, h.fams, h.next, h.next⟩ ⟨Tr.put o kn (some (.miter (some h.next) al.length [] al.length)), fm, kn + 1, h.next⟩ :=
      hov.trans ⟨by show kn ≤ kn + 1; omega, fun j hj => put_other _ _ (by omega), fun _ _ => rfl, fun _ => rfl⟩
    refine AWp.block (AWp.loop (fun m st => ∃ (seen : List Nat) (hk : H) (out : AV), m = al.length - seen.length ∧ seen.Nodup ∧ (∀ i ∈ seen, i < al.length) ∧ (∀ e ∈ handed al seen, e.2 ≤ 1000000000000 ∧ -1000000000000 ≤ e.2) ∧
      Over h.next ⟨h.objs, h.fams, h.next, h.next⟩ hk ∧ MapAt strAV intAV hk.objs h.next al ∧ IterAt hk.objs kn h.next al.length seen ∧ OutAt (kn + 1) hk out 2 ((nzS (handed al seen)).map Sh.cells) ∧ kn + 1 ≤ hk.next ∧
      Fr st [(2, .slice none 0 0 (some 0)), (3, .int .i64 0), (7, out), (36, .ptr (some (kn, 0)))] 58 hk []) al.length ?_ ?_)
    · refine ⟨[], _, .slice none 0 0 (some 0), rfl, List.nodup_nil, (fun i hi => (List.not_mem_nil hi).elim), (fun e he => (List.not_mem_nil he).elim), hov5, ?_, ?_, ⟨(fun r hr => (List.not_mem_nil hr).elim), .inl ⟨rfl, rfl⟩⟩, Nat.le_refl _, rfl, rfl, rfl, rfl, rfl, rfl, rfl, trivial⟩
      · unfold MapAt; show (Tr.put o kn _).get h.next = _; rw [put_other _ _ (by omega)]; exact hmA
      · exact put_same _ _ _
    clear hov5 rg hmA hov hF
    rintro m st ⟨seen, ⟨ko, kf, kx, kl⟩, out, rfl, hsd, hlt2, hle, hov, hmA, hit, hout, hkx, hF⟩
    obtain ⟨f, rfl⟩ := hF.open
    simp only [updL]
    have hlow : kl = h.next := hov.low (Nat.le_refl _)
    simp only at hmA hit hkx
    subst hlow
    obtain ⟨outs, hno, hnx⟩ := next_map (h := ⟨ko, kf, kx, h.next⟩) hmA hit
    (repeat refine AWp.seq ?_)
    refine AWp.region ?_
    refine AOps.n rfl rfl rfl rfl rfl (by rw [op_next (ev_tmp (by omega))]; simp only [upd_eq, Nat.reduceEqDiff, ↓reduceIte]; rw [hno]; rfl) ?_
    intro x hx
    obtain ⟨y, hy, rfl⟩ := List.mem_map.1 hx
    rcases hnx y hy with ⟨rfl, hall⟩ | ⟨i, e, hie, hin, rfl⟩
    · simp only [orU_some]
      (repeat (first | refine AOps.v rfl rfl rfl rfl rfl (by simp only [cells_agg, cells_str, cells_int, cells_bool, cells_ptr, cells_slice, cells_map, cells_fn, op_move, op_assign, op_pick, pick_some, op_alloc, op_box, op_build, op_load, load_some, op_store, store_some, op_bin, op_un, un_not, op_fieldAddr, op_indexAddr, op_index, op_field, op_extract, extract_0, extract_1, extract_2, op_builtin, bi_len, op_func, cond_tt, cond_ff, ev_tmp, ev_const, ev_func, absV, depthV, upd_eq, Nat.reduceEqDiff, Nat.reduceLT, ↓reduceIte, Option.map_some, Option.bind_some, evs_nil, evs_cons, List.toList_toArray, bin_lss k_i64, bin_leq k_i64, bin_gtr k_i64, bin_geq k_i64, bin_eql k_i64, bin_neq k_i64, bin_lss k_u8, bin_leq k_u8, bin_gtr k_u8, bin_geq k_u8, bin_eql k_u8, bin_neq k_u8, bin_seql, bin_sneq]; rfl) ?_ | refine AOps.s rfl rfl rfl ?_ | refine AOps.u rfl rfl rfl rfl (by simp only [cells_agg, cells_str, cells_int, cells_bool, cells_ptr, cells_slice, cells_map, cells_fn, op_move, op_assign, op_pick, pick_some, op_alloc, op_box, op_build, op_load, load_some, op_store, store_some, op_bin, op_un, un_not, op_fieldAddr, op_indexAddr, op_index, op_field, op_extract, extract_0, extract_1, extract_2, op_builtin, bi_len, op_func, cond_tt, cond_ff, ev_tmp, ev_const, ev_func, absV, depthV, upd_eq, Nat.reduceEqDiff, Nat.reduceLT, ↓reduceIte, Option.map_some, Option.bind_some, evs_nil, evs_cons, List.toList_toArray, bin_lss k_i64, bin_leq k_i64, bin_gtr k_i64, bin_geq k_i64, bin_eql k_i64, bin_neq k_i64, bin_lss k_u8, bin_leq k_u8, bin_gtr k_u8, bin_geq k_u8, bin_eql k_u8, bin_neq k_u8, bin_seql, bin_sneq]; rfl) ?_))
      refine AOps.nil ?_
      (repeat refine AWp.seq ?_); change AWp _ _ _ _ _; refine AWp.no (by rfl) (by rfl) ?_
      refine AWp.exit ?_
      have hperm := handed_all hsd hlt2 hall
      have hno13 : ¬ ∃ e ∈ netB ts, 1000000000000 < e.2 ∨ e.2 < -1000000000000 := by
        rintro ⟨e, he, h2⟩
        rw [hal] at he
        have := hle e (hperm.mem_iff.2 he)
        omega
      have hpp : (nzS (handed al seen)).Perm (nzS al) := (hperm.filter _).map _
      (repeat refine AWp.seq ?_)
      refine AWp.region ?_
      (repeat (first | refine AOps.v rfl rfl rfl rfl rfl (by simp only [cells_agg, cells_str, cells_int, cells_bool, cells_ptr, cells_slice, cells_map, cells_fn, op_move, op_assign, op_pick, pick_some, op_alloc, op_box, op_build, op_load, load_some, op_store, store_some, op_bin, op_un, un_not, op_fieldAddr, op_indexAddr, op_index, op_field, op_extract, extract_0, extract_1, extract_2, op_builtin, bi_len, op_func, cond_tt, cond_ff, ev_tmp, ev_const, ev_func, absV, depthV, upd_eq, Nat.reduceEqDiff, Nat.reduceLT, ↓reduceIte, Option.map_some, Option.bind_some, evs_nil, evs_cons, List.toList_toArray, bin_lss k_i64, bin_leq k_i64, bin_gtr k_i64, bin_geq k_i64, bin_eql k_i64, bin_neq k_i64, bin_lss k_u8, bin_leq k_u8, bin_gtr k_u8, bin_geq k_u8, bin_eql k_u8, bin_neq k_u8, bin_seql, bin_sneq]; rfl) ?_ | refine AOps.s rfl rfl rfl ?_ | refine AOps.u rfl rfl rfl rfl (by simp only [cells_agg, cells_str, cells_int, cells_bool, cells_ptr, cells_slice, cells_map, cells_fn, op_move, op_assign, op_pick, pick_some, op_alloc, op_box, op_build, op_load, load_some, op_store, store_some, op_bin, op_un, un_not, op_fieldAddr, op_indexAddr, op_index, op_field, op_extract, extract_0, extract_1, extract_2, op_builtin, bi_len, op_func, cond_tt, cond_ff, ev_tmp, ev_const, ev_func, absV, depthV, upd_eq, Nat.reduceEqDiff, Nat.reduceLT, ↓reduceIte, Option.map_some, Option.bind_some, evs_nil, evs_cons, List.toList_toArray, bin_lss k_i64, bin_leq k_i64, bin_gtr k_i64, bin_geq k_i64, bin_eql k_i64, bin_neq k_i64, bin_lss k_u8, bin_leq k_u8, bin_gtr k_u8, bin_geq k_u8, bin_eql k_u8, bin_neq k_u8, bin_seql, bin_sneq]; rfl) ?_))
      refine AOps.c rfl rfl rfl rfl rfl (by simp only [callOf_val, callW_fn, cells_agg, cells_str, cells_int, cells_bool, cells_ptr, cells_slice, cells_map, cells_fn, op_move, op_assign, op_pick, pick_some, op_alloc, op_box, op_build, op_load, load_some, op_store, store_some, op_bin, op_un, un_not, op_fieldAddr, op_indexAddr, op_index, op_field, op_extract, extract_0, extract_1, extract_2, op_builtin, bi_len, op_func, cond_tt, cond_ff, ev_tmp, ev_const, ev_func, absV, depthV, upd_eq, Nat.reduceEqDiff, Nat.reduceLT, ↓reduceIte, Option.map_some, Option.bind_some, evs_nil, evs_cons, List.toList_toArray, bin_lss k_i64, bin_leq k_i64, bin_gtr k_i64, bin_geq k_i64, bin_eql k_i64, bin_neq k_i64, bin_lss k_u8, bin_leq k_u8, bin_gtr k_u8, bin_geq k_u8, bin_eql k_u8, bin_neq k_u8, bin_seql, bin_sneq]; rfl) rfl (hsort (nzS (handed al seen)) out (kn + 1) ⟨ko, kf, kx, h.next⟩ hout ?_) ?_
      · have h1 : (nzS (handed al seen)).length ≤ (handed al seen).length := by unfold nzS; rw [List.length_map]; exact List.length_filter_le _ _
        have h2 := hperm.length_eq
        omega
      rintro _ h2 ⟨rfl, ss, hp', hs', hout', hov'⟩
      refine AOps.nil ?_
      obtain ⟨o2, f2, n2, l2⟩ := h2
      have hl2 : l2 = h.next := hov'.low (by show h.next ≤ kn + 1; omega)
      subst hl2
      have hG : GoodS ts ss := ⟨by rw [hal]; exact hp'.trans hpp, hs'⟩
      (repeat refine AWp.seq ?_); change AWp _ _ _ _ _; refine AWp.region ?_; (repeat (first | refine AOps.v rfl rfl rfl rfl rfl (by simp only [cells_agg, cells_str, cells_int, cells_bool, cells_ptr, cells_slice, cells_map, cells_fn, op_move, op_assign, op_pick, pick_some, op_alloc, op_box, op_build, op_load, load_some, op_store, store_some, op_bin, op_un, un_not, op_fieldAddr, op_indexAddr, op_index, op_field, op_extract, extract_0, extract_1, extract_2, op_builtin, bi_len, op_func, cond_tt, cond_ff, ev_tmp, ev_const, ev_func, absV, depthV, upd_eq, Nat.reduceEqDiff, Nat.reduceLT, ↓reduceIte, Option.map_some, Option.bind_some, evs_nil, evs_cons, List.toList_toArray, bin_lss k_i64, bin_leq k_i64, bin_gtr k_i64, bin_geq k_i64, bin_eql k_i64, bin_neq k_i64, bin_lss k_u8, bin_leq k_u8, bin_gtr k_u8, bin_geq k_u8, bin_eql k_u8, bin_neq k_u8, bin_seql, bin_sneq]; rfl) ?_ | refine AOps.s rfl rfl rfl ?_ | refine AOps.u rfl rfl rfl rfl (by simp only [cells_agg, cells_str, cells_int, cells_bool, cells_ptr, cells_slice, cells_map, cells_fn, op_move, op_assign, op_pick, pick_some, op_alloc, op_box, op_build, op_load, load_some, op_store, store_some, op_bin, op_un, un_not, op_fieldAddr, op_indexAddr, op_index, op_field, op_extract, extract_0, extract_1, extract_2, op_builtin, bi_len, op_func, cond_tt, cond_ff, ev_tmp, ev_const, ev_func, absV, depthV, upd_eq, Nat.reduceEqDiff, Nat.reduceLT, ↓reduceIte, Option.map_some, Option.bind_some, evs_nil, evs_cons, List.toList_toArray, bin_lss k_i64, bin_leq k_i64, bin_gtr k_i64, bin_geq k_i64, bin_eql k_i64, bin_neq k_i64, bin_lss k_u8, bin_leq k_u8, bin_gtr k_u8, bin_geq k_u8, bin_eql k_u8, bin_neq k_u8, bin_seql, bin_sneq]; rfl) ?_)); refine AOps.nil ?_
      refine AWp.ret ?_
      (try simp only [OutOf, Then, Round, NoGoto])
      by_cases hts : ss = []
      · subst hts
        have hv0 := hout'.nil_of
        subst hv0
        refine leaves_plain (v := .tup [.slice none 0 0 (some 0), .int .i64 0]) (by rfl) (by rfl) (fun _ => rfl) (by rfl) (.inr ⟨hodd, .inr ⟨hno13, [], hG, ?_, ?_⟩⟩)
        · simp only [backS, if_true]
        · simp only [backS, if_true]
      · have hne : ss.map Sh.cells ≠ [] := by simpa using hts
        obtain ⟨fam, hcan⟩ := canon_out hout' (show h.next ≤ kn + 1 by omega) (by intro r hr; obtain ⟨t, _, rfl⟩ := List.mem_map.1 hr; exact plain_cellsS t) hne [] rfl 1
        refine ⟨rfl, _, rfl, .tup [out, .int .i64 0], by rfl, .inr ⟨_, _, _, canon_tup2 hcan (bare_int _ _), rfl, ?_⟩⟩
        refine .inr ⟨hodd, .inr ⟨hno13, ss, hG, ?_, ?_⟩⟩
        · simp only [backS, hts, if_false, List.length_map]
        · simp only [backS, hts, if_false]
    · simp only [orU_some, H.set]
      (repeat (first | refine AOps.v rfl rfl rfl rfl rfl (by simp only [cells_agg, cells_str, cells_int, cells_bool, cells_ptr, cells_slice, cells_map, cells_fn, op_move, op_assign, op_pick, pick_some, op_alloc, op_box, op_build, op_load, load_some, op_store, store_some, op_bin, op_un, un_not, op_fieldAddr, op_indexAddr, op_index, op_field, op_extract, extract_0, extract_1, extract_2, op_builtin, bi_len, op_func, cond_tt, cond_ff, ev_tmp, ev_const, ev_func, absV, depthV, upd_eq, Nat.reduceEqDiff, Nat.reduceLT, ↓reduceIte, Option.map_some, Option.bind_some, evs_nil, evs_cons, List.toList_toArray, bin_lss k_i64, bin_leq k_i64, bin_gtr k_i64, bin_geq k_i64, bin_eql k_i64, bin_neq k_i64, bin_lss k_u8, bin_leq k_u8, bin_gtr k_u8, bin_geq k_u8, bin_eql k_u8, bin_neq k_u8, bin_seql, bin_sneq]; rfl) ?_ | refine AOps.s rfl rfl rfl ?_ | refine AOps.u rfl rfl rfl rfl (by simp only [cells_agg, cells_str, cells_int, cells_bool, cells_ptr, cells_slice, cells_map, cells_fn, op_move, op_assign, op_pick, pick_some, op_alloc, op_box, op_build, op_load, load_some, op_store, store_some, op_bin, op_un, un_not, op_fieldAddr, op_indexAddr, op_index, op_field, op_extract, extract_0, extract_1, extract_2, op_builtin, bi_len, op_func, cond_tt, cond_ff, ev_tmp, ev_const, ev_func, absV, depthV, upd_eq, Nat.reduceEqDiff, Nat.reduceLT, ↓reduceIte, Option.map_some, Option.bind_some, evs_nil, evs_cons, List.toList_toArray, bin_lss k_i64, bin_leq k_i64, bin_gtr k_i64, bin_geq k_i64, bin_eql k_i64, bin_neq k_i64, bin_lss k_u8, bin_leq k_u8, bin_gtr k_u8, bin_geq k_u8, bin_eql k_u8, bin_neq k_u8, bin_seql, bin_sneq]; rfl) ?_))
      refine AOps.nil ?_
      (repeat refine AWp.seq ?_); change AWp _ _ _ _ _; refine AWp.yes (by rfl) (by rfl) (AWp.skip ?_)
      (repeat refine AWp.seq ?_)
      refine AWp.block ?_
      rw [minN_left (show h.next ≤ kn by omega)]
      have hi1 : IterAt (Tr.put ko kn (some (.miter (some h.next) al.length (seen ++ [i]) al.length))) kn h.next al.length (seen ++ [i]) := put_same _ _ _
      have hO1o : ∀ j, j ≠ kn → (Tr.put ko kn (some (.miter (some h.next) al.length (seen ++ [i]) al.length))).get j = ko.get j := fun j hj => put_other _ _ hj
      generalize Tr.put ko kn (some (.miter (some h.next) al.length (seen ++ [i]) al.length)) = O1 at hi1 hO1o ⊢
      have hA1 : MapAt strAV intAV O1 h.next al := (hO1o _ (by omega)).trans hmA
      have hen := fun fm nx lw => entry_map (h := ⟨O1, fm, nx, lw⟩) hA1 hi1 hie
      have hout1 : OutAt (kn + 1) ⟨O1, kf, kx, h.next⟩ out 2 ((nzS (handed al seen)).map Sh.cells) := hout.keep (fun j h1 _ => hO1o j (by omega)) (fun _ _ _ => rfl) (Nat.le_refl _)
      have hov1 : Over h.next ⟨h.objs, h.fams, h.next, h.next⟩ ⟨O1, kf, kx, h.next⟩ := ⟨hov.next, fun j hj => (hO1o j (by omega)).trans (hov.objs j hj), hov.fams, fun _ => rfl⟩
      have hee := hbe e (List.mem_of_getElem? hie)
      have hng := un_neg (n := e.2) ⟨by omega, by omega⟩
      have hseen : (seen ++ [i]).length ≤ al.length ∧ (seen ++ [i]).Nodup ∧ ∀ j ∈ seen ++ [i], j < al.length := by
        have hnd' : (seen ++ [i]).Nodup := by
          rw [List.nodup_append]; exact ⟨hsd, by simp, fun a ha b hb => by simp at hb; subst hb; intro e; subst e; exact hin ha⟩
        have hl' : ∀ j ∈ seen ++ [i], j < al.length := fun j hj => by
          rcases List.mem_append.1 hj with hj | hj
          · exact hlt2 j hj
          · rw [List.mem_singleton.1 hj]; exact idx_lt hie
        have := hnd'.length_le_of_subset (l₂ := List.range al.length) (fun j hj => List.mem_range.2 (hl' j hj))
        rw [List.length_range] at this
        exact ⟨this, hnd', hl'⟩
      obtain ⟨s1, s2, s3⟩ := hseen
      rw [List.length_append, List.length_singleton] at s1
      (repeat refine AWp.seq ?_); change AWp _ _ _ _ _; refine AWp.region ?_; (repeat (first | refine AOps.v rfl rfl rfl rfl rfl (by simp only [cells_agg, cells_str, cells_int, cells_bool, cells_ptr, cells_slice, cells_map, cells_fn, op_move, op_assign, op_pick, pick_some, op_alloc, op_box, op_build, op_load, load_some, op_store, store_some, op_bin, op_un, un_not, op_fieldAddr, op_indexAddr, op_index, op_field, op_extract, extract_0, extract_1, extract_2, op_builtin, bi_len, op_func, cond_tt, cond_ff, ev_tmp, ev_const, ev_func, absV, depthV, upd_eq, Nat.reduceEqDiff, Nat.reduceLT, ↓reduceIte, Option.map_some, Option.bind_some, evs_nil, evs_cons, List.toList_toArray, bin_lss k_i64, bin_leq k_i64, bin_gtr k_i64, bin_geq k_i64, bin_eql k_i64, bin_neq k_i64, bin_lss k_u8, bin_leq k_u8, bin_gtr k_u8, bin_geq k_u8, bin_eql k_u8, bin_neq k_u8, bin_seql, bin_sneq, op_entry, hen]; rfl) ?_ | refine AOps.s rfl rfl rfl ?_ | refine AOps.u rfl rfl rfl rfl (by simp only [cells_agg, cells_str, cells_int, cells_bool, cells_ptr, cells_slice, cells_map, cells_fn, op_move, op_assign, op_pick, pick_some, op_alloc, op_box, op_build, op_load, load_some, op_store, store_some, op_bin, op_un, un_not, op_fieldAddr, op_indexAddr, op_index, op_field, op_extract, extract_0, extract_1, extract_2, op_builtin, bi_len, op_func, cond_tt, cond_ff, ev_tmp, ev_const, ev_func, absV, depthV, upd_eq, Nat.reduceEqDiff, Nat.reduceLT, ↓reduceIte, Option.map_some, Option.bind_some, evs_nil, evs_cons, List.toList_toArray, bin_lss k_i64, bin_leq k_i64, bin_gtr k_i64, bin_geq k_i64, bin_eql k_i64, bin_neq k_i64, bin_lss k_u8, bin_leq k_u8, bin_gtr k_u8, bin_geq k_u8, bin_eql k_u8, bin_neq k_u8, bin_seql, bin_sneq, op_entry, hen]; rfl) ?_)); refine AOps.nil ?_
      obtain ⟨ep, en⟩ := e
      simp only at hee hng
      simp only [strAV, intAV]
      cases hbig : decide ((1000000000000 : Int) < (if -en ≤ en then en else -en))
      · have hbig' : en ≤ 1000000000000 ∧ -1000000000000 ≤ en := by
          have : ¬ (1000000000000 : Int) < (if -en ≤ en then en else -en) := by simpa using hbig
          split at this <;> omega
        have hle' : ∀ e' ∈ handed al (seen ++ [i]), e'.2 ≤ 1000000000000 ∧ -1000000000000 ≤ e'.2 := fun e' he' => by
          rw [handed_snoc al seen hie] at he'
          rcases List.mem_append.1 he' with he' | he'
          · exact hle e' he'
          · rw [List.mem_singleton.1 he']; exact hbig'
        (repeat refine AWp.seq ?_); change AWp _ _ _ _ _; refine AWp.region ?_; (repeat (first | refine AOps.v rfl rfl rfl rfl rfl (by simp only [cells_agg, cells_str, cells_int, cells_bool, cells_ptr, cells_slice, cells_map, cells_fn, op_move, op_assign, op_pick, pick_some, op_alloc, op_box, op_build, op_load, load_some, op_store, store_some, op_bin, op_un, un_not, op_fieldAddr, op_indexAddr, op_index, op_field, op_extract, extract_0, extract_1, extract_2, op_builtin, bi_len, op_func, cond_tt, cond_ff, ev_tmp, ev_const, ev_func, absV, depthV, upd_eq, Nat.reduceEqDiff, Nat.reduceLT, ↓reduceIte, Option.map_some, Option.bind_some, evs_nil, evs_cons, List.toList_toArray, bin_lss k_i64, bin_leq k_i64, bin_gtr k_i64, bin_geq k_i64, bin_eql k_i64, bin_neq k_i64, bin_lss k_u8, bin_leq k_u8, bin_gtr k_u8, bin_geq k_u8, bin_eql k_u8, bin_neq k_u8, bin_seql, bin_sneq, hng, bi_max, hbig]; rfl) ?_ | refine AOps.s rfl rfl rfl ?_ | refine AOps.u rfl rfl rfl rfl (by simp only [cells_agg, cells_str, cells_int, cells_bool, cells_ptr, cells_slice, cells_map, cells_fn, op_move, op_assign, op_pick, pick_some, op_alloc, op_box, op_build, op_load, load_some, op_store, store_some, op_bin, op_un, un_not, op_fieldAddr, op_indexAddr, op_index, op_field, op_extract, extract_0, extract_1, extract_2, op_builtin, bi_len, op_func, cond_tt, cond_ff, ev_tmp, ev_const, ev_func, absV, depthV, upd_eq, Nat.reduceEqDiff, Nat.reduceLT, ↓reduceIte, Option.map_some, Option.bind_some, evs_nil, evs_cons, List.toList_toArray, bin_lss k_i64, bin_leq k_i64, bin_gtr k_i64, bin_geq k_i64, bin_eql k_i64, bin_neq k_i64, bin_lss k_u8, bin_leq k_u8, bin_gtr k_u8, bin_geq k_u8, bin_eql k_u8, bin_neq k_u8, bin_seql, bin_sneq, hng, bi_max, hbig]; rfl) ?_)); refine AOps.nil ?_
        (repeat refine AWp.seq ?_); change AWp _ _ _ _ _; refine AWp.no (by rfl) (by rfl) (AWp.skip ?_)
        cases hz : decide (en = 0)
        · have hz' : ¬ en = 0 := by simpa using hz
          (repeat refine AWp.seq ?_); change AWp _ _ _ _ _; refine AWp.region ?_; (repeat (first | refine AOps.v rfl rfl rfl rfl rfl (by simp only [cells_agg, cells_str, cells_int, cells_bool, cells_ptr, cells_slice, cells_map, cells_fn, op_move, op_assign, op_pick, pick_some, op_alloc, op_box, op_build, op_load, load_some, op_store, store_some, op_bin, op_un, un_not, op_fieldAddr, op_indexAddr, op_index, op_field, op_extract, extract_0, extract_1, extract_2, op_builtin, bi_len, op_func, cond_tt, cond_ff, ev_tmp, ev_const, ev_func, absV, depthV, upd_eq, Nat.reduceEqDiff, Nat.reduceLT, ↓reduceIte, Option.map_some, Option.bind_some, evs_nil, evs_cons, List.toList_toArray, bin_lss k_i64, bin_leq k_i64, bin_gtr k_i64, bin_geq k_i64, bin_eql k_i64, bin_neq k_i64, bin_lss k_u8, bin_leq k_u8, bin_gtr k_u8, bin_geq k_u8, bin_eql k_u8, bin_neq k_u8, bin_seql, bin_sneq, hz]; rfl) ?_ | refine AOps.s rfl rfl rfl ?_ | refine AOps.u rfl rfl rfl rfl (by simp only [cells_agg, cells_str, cells_int, cells_bool, cells_ptr, cells_slice, cells_map, cells_fn, op_move, op_assign, op_pick, pick_some, op_alloc, op_box, op_build, op_load, load_some, op_store, store_some, op_bin, op_un, un_not, op_fieldAddr, op_indexAddr, op_index, op_field, op_extract, extract_0, extract_1, extract_2, op_builtin, bi_len, op_func, cond_tt, cond_ff, ev_tmp, ev_const, ev_func, absV, depthV, upd_eq, Nat.reduceEqDiff, Nat.reduceLT, ↓reduceIte, Option.map_some, Option.bind_some, evs_nil, evs_cons, List.toList_toArray, bin_lss k_i64, bin_leq k_i64, bin_gtr k_i64, bin_geq k_i64, bin_eql k_i64, bin_neq k_i64, bin_lss k_u8, bin_leq k_u8, bin_gtr k_u8, bin_geq k_u8, bin_eql k_u8, bin_neq k_u8, bin_seql, bin_sneq, hz]; rfl) ?_)); refine AOps.nil ?_
          (repeat refine AWp.seq ?_); change AWp _ _ _ _ _; refine AWp.yes (by rfl) (by rfl) ?_
          (repeat refine AWp.seq ?_)
          refine AWp.region ?_
          (repeat (first | refine AOps.v rfl rfl rfl rfl rfl (by simp only [cells_agg, cells_str, cells_int, cells_bool, cells_ptr, cells_slice, cells_map, cells_fn, op_move, op_assign, op_pick, pick_some, op_alloc, op_box, op_build, op_load, load_some, op_store, store_some, op_bin, op_un, un_not, op_fieldAddr, op_indexAddr, op_index, op_field, op_extract, extract_0, extract_1, extract_2, op_builtin, bi_len, op_func, cond_tt, cond_ff, ev_tmp, ev_const, ev_func, absV, depthV, upd_eq, Nat.reduceEqDiff, Nat.reduceLT, ↓reduceIte, Option.map_some, Option.bind_some, evs_nil, evs_cons, List.toList_toArray, bin_lss k_i64, bin_leq k_i64, bin_gtr k_i64, bin_geq k_i64, bin_eql k_i64, bin_neq k_i64, bin_lss k_u8, bin_leq k_u8, bin_gtr k_u8, bin_geq k_u8, bin_eql k_u8, bin_neq k_u8, bin_seql, bin_sneq, load_agg Tryz.agg60 Tryz.size60, load_one Tryz.agg9, load_one Tryz.agg3, load_one Tryz.agg56, Tryz.fa60_0, Tryz.fa60_1, Tryz.fa60_2, len_slice Tryz.underlying56, len_slice Tryz.underlying31, H.lay, rowO_put, rowA_cells, Nat.zero_add, Nat.add_zero, ↓reduceIte, op_buildSlice, partsA_cons, partsA_nil, build36, buildS31]; rfl) ?_ | refine AOps.s rfl rfl rfl ?_ | refine AOps.u rfl rfl rfl rfl (by simp only [cells_agg, cells_str, cells_int, cells_bool, cells_ptr, cells_slice, cells_map, cells_fn, op_move, op_assign, op_pick, pick_some, op_alloc, op_box, op_build, op_load, load_some, op_store, store_some, op_bin, op_un, un_not, op_fieldAddr, op_indexAddr, op_index, op_field, op_extract, extract_0, extract_1, extract_2, op_builtin, bi_len, op_func, cond_tt, cond_ff, ev_tmp, ev_const, ev_func, absV, depthV, upd_eq, Nat.reduceEqDiff, Nat.reduceLT, ↓reduceIte, Option.map_some, Option.bind_some, evs_nil, evs_cons, List.toList_toArray, bin_lss k_i64, bin_leq k_i64, bin_gtr k_i64, bin_geq k_i64, bin_eql k_i64, bin_neq k_i64, bin_lss k_u8, bin_leq k_u8, bin_gtr k_u8, bin_geq k_u8, bin_eql k_u8, bin_neq k_u8, bin_seql, bin_sneq, load_agg Tryz.agg60 Tryz.size60, load_one Tryz.agg9, load_one Tryz.agg3, load_one Tryz.agg56, Tryz.fa60_0, Tryz.fa60_1, Tryz.fa60_2, len_slice Tryz.underlying56, len_slice Tryz.underlying31, H.lay, rowO_put, rowA_cells, Nat.zero_add, Nat.add_zero, ↓reduceIte, op_buildSlice, partsA_cons, partsA_nil, build36, buildS31]; rfl) ?_))
          have hrowy : rowO (Tr.put O1 kx (some (.cells (Sh.mk ep en).cells kx))) kx = some [(Sh.mk ep en).cells].flatten := by rw [rowO_put, if_pos rfl]; simp [rowA_cells]
          have hO3o : ∀ j, j ≠ kx → (Tr.put O1 kx (some (.cells (Sh.mk ep en).cells kx))).get j = O1.get j := fun j hj => put_other _ _ hj
          generalize Tr.put O1 kx (some (.cells (Sh.mk ep en).cells kx)) = O3 at hrowy hO3o ⊢
          have hF3o : ∀ j, j ≠ kx → (Tr.put kf kx (some (kx, kx))).get j = kf.get j := fun j hj => put_other _ _ hj
          generalize Tr.put kf kx (some (kx, kx)) = F3 at hF3o ⊢
          have hout3 : OutAt (kn + 1) ⟨O3, F3, kx + 1, h.next⟩ out 2 ((nzS (handed al seen)).map Sh.cells) := hout1.keep (fun j _ h2 => hO3o j (by simp only at h2; omega)) (fun j _ h2 => hF3o j (by simp only at h2; omega)) (Nat.le_succ _)
          have hlx : ((nzS (handed al seen)).map Sh.cells).length ≤ 1000000 := by
            rw [List.length_map]
            have h1 : (nzS (handed al seen)).length ≤ (handed al seen).length := by unfold nzS; rw [List.length_map]; exact List.length_filter_le _ _
            have h2 : (handed al seen).length ≤ seen.length := by unfold handed; exact List.length_filterMap_le _ _
            omega
          obtain ⟨v', ⟨o4, f4, n4, l4⟩, happ, hout4, hov4, hn4⟩ := append_out Tryz.underlying31 Tryz.underlying31 Tryz.info36 Tryz.zero36 rfl rfl (show (2 : Nat) ≠ 0 by decide) (by decide) hout3 (by show kn + 1 ≤ kx + 1; omega) (new := [(Sh.mk ep en).cells]) (y := .slice (some (kx, 0)) 1 2 (some 1)) rfl hrowy (by intro r hr; rw [List.mem_singleton.1 hr]; rfl) (by rfl) (by simp) hlx (by simp)
          have hl4 : l4 = h.next := hov4.low (by show h.next ≤ kn + 1; omega)
          subst hl4
          simp only at hn4
          (repeat (first | refine AOps.v rfl rfl rfl rfl rfl (by simp only [cells_agg, cells_str, cells_int, cells_bool, cells_ptr, cells_slice, cells_map, cells_fn, op_move, op_assign, op_pick, pick_some, op_alloc, op_box, op_build, op_load, load_some, op_store, store_some, op_bin, op_un, un_not, op_fieldAddr, op_indexAddr, op_index, op_field, op_extract, extract_0, extract_1, extract_2, op_builtin, bi_len, op_func, cond_tt, cond_ff, ev_tmp, ev_const, ev_func, absV, depthV, upd_eq, Nat.reduceEqDiff, Nat.reduceLT, ↓reduceIte, Option.map_some, Option.bind_some, evs_nil, evs_cons, List.toList_toArray, bin_lss k_i64, bin_leq k_i64, bin_gtr k_i64, bin_geq k_i64, bin_eql k_i64, bin_neq k_i64, bin_lss k_u8, bin_leq k_u8, bin_gtr k_u8, bin_geq k_u8, bin_eql k_u8, bin_neq k_u8, bin_seql, bin_sneq, bi_append, happ]; rfl) ?_ | refine AOps.s rfl rfl rfl ?_ | refine AOps.u rfl rfl rfl rfl (by simp only [cells_agg, cells_str, cells_int, cells_bool, cells_ptr, cells_slice, cells_map, cells_fn, op_move, op_assign, op_pick, pick_some, op_alloc, op_box, op_build, op_load, load_some, op_store, store_some, op_bin, op_un, un_not, op_fieldAddr, op_indexAddr, op_index, op_field, op_extract, extract_0, extract_1, extract_2, op_builtin, bi_len, op_func, cond_tt, cond_ff, ev_tmp, ev_const, ev_func, absV, depthV, upd_eq, Nat.reduceEqDiff, Nat.reduceLT, ↓reduceIte, Option.map_some, Option.bind_some, evs_nil, evs_cons, List.toList_toArray, bin_lss k_i64, bin_leq k_i64, bin_gtr k_i64, bin_geq k_i64, bin_eql k_i64, bin_neq k_i64, bin_lss k_u8, bin_leq k_u8, bin_gtr k_u8, bin_geq k_u8, bin_eql k_u8, bin_neq k_u8, bin_seql, bin_sneq, bi_append, happ]; rfl) ?_))
          refine AOps.nil ?_
          refine ⟨al.length - (seen.length + 1), by omega, seen ++ [i], ⟨o4, f4, n4, h.next⟩, v', by simp, s2, s3, hle', ?_, ?_, ?_, ?_, by show kn + 1 ≤ n4; omega, rfl, rfl, rfl, rfl, rfl, rfl, rfl, trivial⟩
          · exact hov1.trans ((⟨by show kx ≤ kx + 1; omega, fun j hj => hO3o j (by have := hov1.next; simp only at this; omega), fun j hj => hF3o j (by have := hov1.next; simp only at this; omega), fun _ => rfl⟩ : Over h.next ⟨O1, kf, kx, h.next⟩ ⟨O3, F3, kx + 1, h.next⟩).trans (hov4.less (by omega)))
          · exact (hov4.objs h.next (by omega)).trans ((hO3o _ (by omega)).trans hA1)
          · exact (hov4.objs kn (by omega)).trans ((hO3o _ (by omega)).trans hi1)
          · rw [handed_snoc al seen hie, nzS_snoc, if_neg hz', List.map_append]
            exact hout4
        · have hz' : en = 0 := by simpa using hz
          (repeat refine AWp.seq ?_); change AWp _ _ _ _ _; refine AWp.region ?_; (repeat (first | refine AOps.v rfl rfl rfl rfl rfl (by simp only [cells_agg, cells_str, cells_int, cells_bool, cells_ptr, cells_slice, cells_map, cells_fn, op_move, op_assign, op_pick, pick_some, op_alloc, op_box, op_build, op_load, load_some, op_store, store_some, op_bin, op_un, un_not, op_fieldAddr, op_indexAddr, op_index, op_field, op_extract, extract_0, extract_1, extract_2, op_builtin, bi_len, op_func, cond_tt, cond_ff, ev_tmp, ev_const, ev_func, absV, depthV, upd_eq, Nat.reduceEqDiff, Nat.reduceLT, ↓reduceIte, Option.map_some, Option.bind_some, evs_nil, evs_cons, List.toList_toArray, bin_lss k_i64, bin_leq k_i64, bin_gtr k_i64, bin_geq k_i64, bin_eql k_i64, bin_neq k_i64, bin_lss k_u8, bin_leq k_u8, bin_gtr k_u8, bin_geq k_u8, bin_eql k_u8, bin_neq k_u8, bin_seql, bin_sneq, hz]; rfl) ?_ | refine AOps.s rfl rfl rfl ?_ | refine AOps.u rfl rfl rfl rfl (by simp only [cells_agg, cells_str, cells_int, cells_bool, cells_ptr, cells_slice, cells_map, cells_fn, op_move, op_assign, op_pick, pick_some, op_alloc, op_box, op_build, op_load, load_some, op_store, store_some, op_bin, op_un, un_not, op_fieldAddr, op_indexAddr, op_index, op_field, op_extract, extract_0, extract_1, extract_2, op_builtin, bi_len, op_func, cond_tt, cond_ff, ev_tmp, ev_const, ev_func, absV, depthV, upd_eq, Nat.reduceEqDiff, Nat.reduceLT, ↓reduceIte, Option.map_some, Option.bind_some, evs_nil, evs_cons, List.toList_toArray, bin_lss k_i64, bin_leq k_i64, bin_gtr k_i64, bin_geq k_i64, bin_eql k_i64, bin_neq k_i64, bin_lss k_u8, bin_leq k_u8, bin_gtr k_u8, bin_geq k_u8, bin_eql k_u8, bin_neq k_u8, bin_seql, bin_sneq, hz]; rfl) ?_)); refine AOps.nil ?_
          (repeat refine AWp.seq ?_); change AWp _ _ _ _ _; refine AWp.no (by rfl) (by rfl) ?_
          refine AWp.skip ?_
          refine ⟨al.length - (seen.length + 1), by omega, seen ++ [i], ⟨O1, kf, kx, h.next⟩, out, by simp, s2, s3, hle', hov1, hA1, hi1, ?_, hkx, rfl, rfl, rfl, rfl, rfl, rfl, rfl, trivial⟩
          rw [handed_snoc al seen hie, nzS_snoc, if_pos hz']
          exact hout1
      · have hbig' : 1000000000000 < en ∨ en < -1000000000000 := by
          have : (1000000000000 : Int) < (if -en ≤ en then en else -en) := by simpa using hbig
          split at this <;> omega
        (repeat refine AWp.seq ?_); change AWp _ _ _ _ _; refine AWp.region ?_; (repeat (first | refine AOps.v rfl rfl rfl rfl rfl (by simp only [cells_agg, cells_str, cells_int, cells_bool, cells_ptr, cells_slice, cells_map, cells_fn, op_move, op_assign, op_pick, pick_some, op_alloc, op_box, op_build, op_load, load_some, op_store, store_some, op_bin, op_un, un_not, op_fieldAddr, op_indexAddr, op_index, op_field, op_extract, extract_0, extract_1, extract_2, op_builtin, bi_len, op_func, cond_tt, cond_ff, ev_tmp, ev_const, ev_func, absV, depthV, upd_eq, Nat.reduceEqDiff, Nat.reduceLT, ↓reduceIte, Option.map_some, Option.bind_some, evs_nil, evs_cons, List.toList_toArray, bin_lss k_i64, bin_leq k_i64, bin_gtr k_i64, bin_geq k_i64, bin_eql k_i64, bin_neq k_i64, bin_lss k_u8, bin_leq k_u8, bin_gtr k_u8, bin_geq k_u8, bin_eql k_u8, bin_neq k_u8, bin_seql, bin_sneq, hng, bi_max, hbig]; rfl) ?_ | refine AOps.s rfl rfl rfl ?_ | refine AOps.u rfl rfl rfl rfl (by simp only [cells_agg, cells_str, cells_int, cells_bool, cells_ptr, cells_slice, cells_map, cells_fn, op_move, op_assign, op_pick, pick_some, op_alloc, op_box, op_build, op_load, load_some, op_store, store_some, op_bin, op_un, un_not, op_fieldAddr, op_indexAddr, op_index, op_field, op_extract, extract_0, extract_1, extract_2, op_builtin, bi_len, op_func, cond_tt, cond_ff, ev_tmp, ev_const, ev_func, absV, depthV, upd_eq, Nat.reduceEqDiff, Nat.reduceLT, ↓reduceIte, Option.map_some, Option.bind_some, evs_nil, evs_cons, List.toList_toArray, bin_lss k_i64, bin_leq k_i64, bin_gtr k_i64, bin_geq k_i64, bin_eql k_i64, bin_neq k_i64, bin_lss k_u8, bin_leq k_u8, bin_gtr k_u8, bin_geq k_u8, bin_eql k_u8, bin_neq k_u8, bin_seql, bin_sneq, hng, bi_max, hbig]; rfl) ?_)); refine AOps.nil ?_
        (repeat refine AWp.seq ?_); change AWp _ _ _ _ _; refine AWp.yes (by rfl) (by rfl) ?_
        (repeat refine AWp.seq ?_); change AWp _ _ _ _ _; refine AWp.region ?_; (repeat (first | refine AOps.v rfl rfl rfl rfl rfl (by simp only [cells_agg, cells_str, cells_int, cells_bool, cells_ptr, cells_slice, cells_map, cells_fn, op_move, op_assign, op_pick, pick_some, op_alloc, op_box, op_build, op_load, load_some, op_store, store_some, op_bin, op_un, un_not, op_fieldAddr, op_indexAddr, op_index, op_field, op_extract, extract_0, extract_1, extract_2, op_builtin, bi_len, op_func, cond_tt, cond_ff, ev_tmp, ev_const, ev_func, absV, depthV, upd_eq, Nat.reduceEqDiff, Nat.reduceLT, ↓reduceIte, Option.map_some, Option.bind_some, evs_nil, evs_cons, List.toList_toArray, bin_lss k_i64, bin_leq k_i64, bin_gtr k_i64, bin_geq k_i64, bin_eql k_i64, bin_neq k_i64, bin_lss k_u8, bin_leq k_u8, bin_gtr k_u8, bin_geq k_u8, bin_eql k_u8, bin_neq k_u8, bin_seql, bin_sneq]; rfl) ?_ | refine AOps.s rfl rfl rfl ?_ | refine AOps.u rfl rfl rfl rfl (by simp only [cells_agg, cells_str, cells_int, cells_bool, cells_ptr, cells_slice, cells_map, cells_fn, op_move, op_assign, op_pick, pick_some, op_alloc, op_box, op_build, op_load, load_some, op_store, store_some, op_bin, op_un, un_not, op_fieldAddr, op_indexAddr, op_index, op_field, op_extract, extract_0, extract_1, extract_2, op_builtin, bi_len, op_func, cond_tt, cond_ff, ev_tmp, ev_const, ev_func, absV, depthV, upd_eq, Nat.reduceEqDiff, Nat.reduceLT, ↓reduceIte, Option.map_some, Option.bind_some, evs_nil, evs_cons, List.toList_toArray, bin_lss k_i64, bin_leq k_i64, bin_gtr k_i64, bin_geq k_i64, bin_eql k_i64, bin_neq k_i64, bin_lss k_u8, bin_leq k_u8, bin_gtr k_u8, bin_geq k_u8, bin_eql k_u8, bin_neq k_u8, bin_seql, bin_sneq]; rfl) ?_)); refine AOps.nil ?_
        refine AWp.ret ?_
        (try simp only [OutOf, Then, Round, NoGoto])
        exact leaves_plain (v := .tup [.slice none 0 0 (some 0), .int .i64 13]) (by rfl) (by rfl) (fun _ => rfl) (by rfl) (.inr ⟨hodd, .inl ⟨⟨(ep, en), by rw [hal]; exact List.mem_of_getElem? hie, hbig'⟩, rfl, rfl⟩⟩)

end Go.Proofs
