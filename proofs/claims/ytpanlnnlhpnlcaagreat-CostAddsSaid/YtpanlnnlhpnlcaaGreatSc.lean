/- Seat r1: what sums hand back as transfers. No conditions beyond those that each theorem states. -/
import Derived.Test.YtpanlnnlhpnlcaaGreatSb
import Derived.Test.YtpanlnnlhpnlcaaGreatGg

set_option linter.unusedSimpArgs false
set_option linter.unusedVariables false
set_option linter.unusedSectionVars false

namespace Go.Proofs
open Go.Ev
set_option maxRecDepth 100000

/-- From, To in the order of their pairs. -/
def ltX (a b : Xf) : Bool := ltL a.fr b.fr || (decide (a.fr = b.fr) && ltL a.to b.to)
def SortedX (ts : List Xf) : Prop := ts.Pairwise fun a b => ltX b a = false

/-- What is asked of sort.Slice. -/
def SortSaid : Prop := ∀ (ts : List Xf) (v : AV) (Z cid : Nat) (h : H), OutAt Z h v 3 (ts.map Xf.cells) → h.objs.get cid = some (.cells [v] cid) → cid < Z → ts.length ≤ 1000000 →
  ACalls Tryz.prog (.func 88) [.iface 56 v, .fn (.func 89) [] [.ptr (some (cid, 0))]] h (fun r h' => r = .tup [] ∧ ∃ ts', ts'.Perm ts ∧ SortedX ts' ∧ OutAt Z h' v 3 (ts'.map Xf.cells) ∧ Over Z h h')

def toX (e : Pr × Int) : Xf := ⟨e.1.1, e.1.2, e.2⟩
def posX (l : List (Pr × Int)) : List Xf := (l.filter fun e => decide (0 < e.2)).map toX

theorem posX_snoc (l : List (Pr × Int)) (e : Pr × Int) : posX (l ++ [e]) = if 0 < e.2 then posX l ++ [toX e] else posX l := by
  unfold posX
  rw [List.filter_append]
  by_cases h : 0 < e.2 <;> simp [h]

/-- A list of transfers that a call hands back: nil, or a new row. -/
noncomputable def backX (h : H) (ts : List Xf) : AV × H := if ts = [] then (.slice none 0 0 (some 0), h) else (.slice (some (h.next, 0)) ts.length 3 none, layAll [(ts.map Xf.cells).flatten] h)

noncomputable def TransQ (h : H) (ml : List (Pr × Int)) (v : AV) (h' : H) : Prop :=
  ((∃ e ∈ ml, 1000000000000 < e.2) ∧ v = .tup [.slice none 0 0 (some 0), .int .i64 13] ∧ h' = h) ∨
  ((∀ e ∈ ml, e.2 ≤ 1000000000000) ∧ ∃ ts, ts.Perm (posX ml) ∧ SortedX ts ∧ v = .tup [(backX h ts).1, .int .i64 0] ∧ h' = (backX h ts).2)

theorem Tryz.zero56 : zeroA Tryz.prog 56 = some (.slice none 0 0 (some 0)) := by kernel_rfl
theorem Tryz.zero125 : zeroA Tryz.prog 125 = some (.agg [.str [], .str []]) := by kernel_rfl
theorem build60 (a b : List Nat) (n : Int) : buildA Tryz.prog 60 [(0, .str a), (1, .str b), (2, .int .i64 n)] = some (.agg (Xf.mk a b n).cells) := by kernel_rfl
theorem buildS56 (a b : List Nat) (n : Int) : buildSliceA Tryz.prog 56 1 [(0, .agg (Xf.mk a b n).cells)] = some (3, (Xf.mk a b n).cells) := by kernel_rfl

theorem Tryz.info60 : Tryz.prog.info? 60 = some Tryz.t60 := by kernel_rfl

theorem plain_cells (t : Xf) : t.cells.all (plainA 4) = true := rfl
theorem one_cells (t : Xf) : t.cells.all oneC = true := rfl

set_option maxHeartbeats 2000000 in
theorem Tryz.transfers (hsort : SortSaid) (ml : List (Pr × Int)) (hlen : ml.length ≤ 100000) (m : Nat) (h : H) (hm : MapAt Pr.av intAV h.objs m ml) (hid : m < h.next) :
    ACalls Tryz.prog (.func 51) [.map (some m)] h (TransQ h ml) := by
  refine ACalls.body (n := 32) Tryz.nogo Tryz.func51 rfl rfl ?_
  rw [argF1]
  have rg : ∀ fm nx lw, rangeA Tryz.prog ⟨Tr.put h.objs h.next (some (.cells [.slice none 0 0 (some 0)] h.next)), fm, nx, lw⟩ 122 (.map (some m)) = some (.ptr (some (nx, 0)), ⟨Tr.put (Tr.put h.objs h.next (some (.cells [.slice none 0 0 (some 0)] h.next))) nx (some (.miter (some m) ml.length [] ml.length)), fm, nx + 1, lw⟩) := fun fm nx lw =>
    range_map (kv := Pr.av) (uv := intAV) Tryz.underlying122 (show MapAt Pr.av intAV _ m ml from by unfold MapAt; rw [put_other _ _ (by omega)]; exact hm)
  (repeat refine AWp.seq ?_); change AWp _ _ _ _ _; refine AWp.region ?_; (repeat (first | refine AOps.v rfl rfl rfl rfl rfl (by simp only [evS, cond_tt, cond_ff, absV, depthV, Nat.reduceEqDiff, Nat.reduceLT, ↓reduceIte, Option.map_some, Option.bind_some, List.toList_toArray]; rfl) ?_ | refine AOps.s rfl rfl rfl ?_ | refine AOps.u rfl rfl rfl rfl (by simp only [evS, cond_tt, cond_ff, absV, depthV, Nat.reduceEqDiff, Nat.reduceLT, ↓reduceIte, Option.map_some, Option.bind_some, List.toList_toArray]; rfl) ?_)); refine AOps.nil ?_
  (repeat refine AWp.seq ?_); change AWp _ _ _ _ _; refine AWp.region ?_; (repeat (first | refine AOps.v rfl rfl rfl rfl rfl (by simp only [evS, cond_tt, cond_ff, absV, depthV, Nat.reduceEqDiff, Nat.reduceLT, ↓reduceIte, Option.map_some, Option.bind_some, List.toList_toArray, Tryz.zero56, H.lay]; rfl) ?_ | refine AOps.s rfl rfl rfl ?_ | refine AOps.u rfl rfl rfl rfl (by simp only [evS, cond_tt, cond_ff, absV, depthV, Nat.reduceEqDiff, Nat.reduceLT, ↓reduceIte, Option.map_some, Option.bind_some, List.toList_toArray, Tryz.zero56, H.lay]; rfl) ?_)); refine AOps.nil ?_
  (repeat refine AWp.seq ?_); change AWp _ _ _ _ _; refine AWp.region ?_; (repeat (first | refine AOps.v rfl rfl rfl rfl rfl (by simp only [evS, cond_tt, cond_ff, absV, depthV, Nat.reduceEqDiff, Nat.reduceLT, ↓reduceIte, Option.map_some, Option.bind_some, List.toList_toArray, op_range, H.lay, rg]; rfl) ?_ | refine AOps.s rfl rfl rfl ?_ | refine AOps.u rfl rfl rfl rfl (by simp only [evS, cond_tt, cond_ff, absV, depthV, Nat.reduceEqDiff, Nat.reduceLT, ↓reduceIte, Option.map_some, Option.bind_some, List.toList_toArray, op_range, H.lay, rg]; rfl) ?_)); refine AOps.nil ?_
  refine AWp.block (AWp.loop (fun k st => ∃ (seen : List Nat) (hk : H) (v : AV), k = ml.length - seen.length ∧ seen.Nodup ∧ (∀ i ∈ seen, i < ml.length) ∧ (∀ e ∈ handed ml seen, e.2 ≤ 1000000000000) ∧
    Over h.next ⟨h.objs, h.fams, h.next, h.next⟩ hk ∧ hk.objs.get h.next = some (.cells [v] h.next) ∧ hk.fams.get h.next = some (h.next, h.next) ∧ IterAt hk.objs (h.next + 1) m ml.length seen ∧ OutAt (h.next + 2) hk v 3 ((posX (handed ml seen)).map Xf.cells) ∧ h.next + 2 ≤ hk.next ∧
    Fr st [(2, .slice none 0 0 (some 0)), (3, .int .i64 0), (4, .ptr (some (h.next, 0))), (8, .ptr (some (h.next + 1, 0)))] 32 hk []) ml.length ?_ ?_)
  · refine ⟨[], _, .slice none 0 0 (some 0), rfl, List.nodup_nil, (fun i hi => by cases hi), (fun e he => by cases he), ?_, ?_, ?_, ?_, ⟨(fun r hr => by cases hr), .inl ⟨rfl, rfl⟩⟩, ?_, rfl, rfl, rfl, rfl, rfl, rfl, rfl, trivial⟩
    · refine ⟨by show h.next ≤ h.next + 1 + 1; omega, fun j hj => ?_, fun j hj => ?_, fun hl => rfl⟩
      · show (Tr.put (Tr.put h.objs h.next _) (h.next + 1) _).get j = _
        rw [put_other _ _ (by omega), put_other _ _ (by omega)]
      · show (Tr.put h.fams h.next _).get j = _
        rw [put_other _ _ (by omega)]
    · show (Tr.put (Tr.put h.objs h.next _) (h.next + 1) _).get h.next = _
      rw [put_other _ _ (by omega), put_same]
    · exact put_same _ _ _
    · exact put_same _ _ _
    · exact Nat.le_refl _
  rintro k st ⟨seen, ⟨ko, kf, kn, kl⟩, v, rfl, hnd, hlt, hle, hov, hcell, hfam, hit, hout, hkn, hF⟩
  obtain ⟨f, rfl⟩ := hF.open
  simp only [updL]
  have hlow : kl = h.next := hov.low (Nat.le_refl _)
  simp only at hcell hfam hit hkn
  subst hlow
  have hmk : MapAt Pr.av intAV ko m ml := (hov.objs m hid).trans hm
  obtain ⟨outs, hno, hnx⟩ := next_map (h := ⟨ko, kf, kn, h.next⟩) hmk hit
  (repeat refine AWp.seq ?_)
  refine AWp.region ?_
  refine AOps.n rfl rfl rfl rfl rfl (by rw [op_next (ev_tmp (by omega))]; simp only [upd_eq, Nat.reduceEqDiff, ↓reduceIte]; rw [hno]; rfl) ?_
  intro x hx
  obtain ⟨y, hy, rfl⟩ := List.mem_map.1 hx
  rcases hnx y hy with ⟨rfl, hall⟩ | ⟨i, e, hie, hin, rfl⟩
  · simp only [orU_some]
    (repeat (first | refine AOps.v rfl rfl rfl rfl rfl (by simp only [evS, cond_tt, cond_ff, absV, depthV, Nat.reduceEqDiff, Nat.reduceLT, ↓reduceIte, Option.map_some, Option.bind_some, List.toList_toArray]; rfl) ?_ | refine AOps.s rfl rfl rfl ?_ | refine AOps.u rfl rfl rfl rfl (by simp only [evS, cond_tt, cond_ff, absV, depthV, Nat.reduceEqDiff, Nat.reduceLT, ↓reduceIte, Option.map_some, Option.bind_some, List.toList_toArray]; rfl) ?_))
    refine AOps.nil ?_
    (repeat refine AWp.seq ?_); change AWp _ _ _ _ _; refine AWp.no (by rfl) (by rfl) ?_
    refine AWp.exit ?_
    have hperm := handed_all hnd hlt hall
    have hle' : ∀ e ∈ ml, e.2 ≤ 1000000000000 := fun e he => hle e (hperm.mem_iff.2 he)
    have hpp : (posX (handed ml seen)).Perm (posX ml) := (hperm.filter _).map _
    have hrowc : rowO ko h.next = some [v] := by unfold rowO; rw [hcell]; rfl
    (repeat refine AWp.seq ?_)
    refine AWp.region ?_
    (repeat (first | refine AOps.v rfl rfl rfl rfl rfl (by simp only [evS, cond_tt, cond_ff, absV, depthV, Nat.reduceEqDiff, Nat.reduceLT, ↓reduceIte, Option.map_some, Option.bind_some, List.toList_toArray, load_one Tryz.agg56, hrowc, List.getElem?_cons_zero]; rfl) ?_ | refine AOps.s rfl rfl rfl ?_ | refine AOps.u rfl rfl rfl rfl (by simp only [evS, cond_tt, cond_ff, absV, depthV, Nat.reduceEqDiff, Nat.reduceLT, ↓reduceIte, Option.map_some, Option.bind_some, List.toList_toArray, load_one Tryz.agg56, hrowc, List.getElem?_cons_zero]; rfl) ?_))
    refine AOps.c rfl rfl rfl rfl rfl (by simp only [callOf_val, callW_fn, evS, cond_tt, cond_ff, absV, depthV, Nat.reduceEqDiff, Nat.reduceLT, ↓reduceIte, Option.map_some, Option.bind_some, List.toList_toArray]; rfl) rfl (hsort (posX (handed ml seen)) v (h.next + 2) h.next ⟨ko, kf, kn, h.next⟩ hout hcell (by omega) ?_) ?_
    · have h1 : (posX (handed ml seen)).length ≤ (handed ml seen).length := by unfold posX; rw [List.length_map]; exact List.length_filter_le _ _
      have h2 := hperm.length_eq
      omega
    rintro _ h2 ⟨rfl, ts', hp', hs', hout', hov'⟩
    refine AOps.nil ?_
    obtain ⟨o2, f2, n2, l2⟩ := h2
    have hl2 : l2 = h.next := hov'.low (by show h.next ≤ h.next + 2; omega)
    subst hl2
    have hcell2 : o2.get h.next = some (.cells [v] h.next) := (hov'.objs h.next (by omega)).trans hcell
    have hrowc2 : rowO o2 h.next = some [v] := by unfold rowO; rw [hcell2]; rfl
    (repeat refine AWp.seq ?_); change AWp _ _ _ _ _; refine AWp.region ?_; (repeat (first | refine AOps.v rfl rfl rfl rfl rfl (by simp only [evS, cond_tt, cond_ff, absV, depthV, Nat.reduceEqDiff, Nat.reduceLT, ↓reduceIte, Option.map_some, Option.bind_some, List.toList_toArray, load_one Tryz.agg56, hrowc2, List.getElem?_cons_zero]; rfl) ?_ | refine AOps.s rfl rfl rfl ?_ | refine AOps.u rfl rfl rfl rfl (by simp only [evS, cond_tt, cond_ff, absV, depthV, Nat.reduceEqDiff, Nat.reduceLT, ↓reduceIte, Option.map_some, Option.bind_some, List.toList_toArray, load_one Tryz.agg56, hrowc2, List.getElem?_cons_zero]; rfl) ?_)); refine AOps.nil ?_
    refine AWp.ret ?_
    (try simp only [OutOf, Then, Round, NoGoto])
    by_cases hts : ts' = []
    · subst hts
      have hv0 := hout'.nil_of
      subst hv0
      refine leaves_plain (v := .tup [.slice none 0 0 (some 0), .int .i64 0]) (by rfl) (by rfl) (fun _ => rfl) (by rfl) (.inr ⟨hle', [], hp'.trans hpp, hs', ?_, ?_⟩)
      · simp only [backX, if_true]
      · simp only [backX, if_true]
    · have hne : ts'.map Xf.cells ≠ [] := by simpa using hts
      obtain ⟨fam, hcan⟩ := canon_out hout' (show h.next ≤ h.next + 2 by omega) (by intro r hr; obtain ⟨t, _, rfl⟩ := List.mem_map.1 hr; exact plain_cells t) hne [] rfl 1
      refine ⟨rfl, _, rfl, .tup [v, .int .i64 0], by rfl, .inr ⟨_, _, _, canon_tup2 hcan (bare_int _ _), rfl, ?_⟩⟩
      refine .inr ⟨hle', ts', hp'.trans hpp, hs', ?_, ?_⟩
      · simp only [backX, hts, if_false, List.length_map]
      · simp only [backX, hts, if_false]
  · simp only [orU_some, H.set]
    (repeat (first | refine AOps.v rfl rfl rfl rfl rfl (by simp only [evS, cond_tt, cond_ff, absV, depthV, Nat.reduceEqDiff, Nat.reduceLT, ↓reduceIte, Option.map_some, Option.bind_some, List.toList_toArray]; rfl) ?_ | refine AOps.s rfl rfl rfl ?_ | refine AOps.u rfl rfl rfl rfl (by simp only [evS, cond_tt, cond_ff, absV, depthV, Nat.reduceEqDiff, Nat.reduceLT, ↓reduceIte, Option.map_some, Option.bind_some, List.toList_toArray]; rfl) ?_))
    refine AOps.nil ?_
    (repeat refine AWp.seq ?_); change AWp _ _ _ _ _; refine AWp.yes (by rfl) (by rfl) (AWp.skip ?_)
    (repeat refine AWp.seq ?_)
    refine AWp.block ?_
    rw [minN_add]
    have hi1 : IterAt (Tr.put ko (h.next + 1) (some (.miter (some m) ml.length (seen ++ [i]) ml.length))) (h.next + 1) m ml.length (seen ++ [i]) := put_same _ _ _
    have hO1o : ∀ j, j ≠ h.next + 1 → (Tr.put ko (h.next + 1) (some (.miter (some m) ml.length (seen ++ [i]) ml.length))).get j = ko.get j := fun j hj => put_other _ _ hj
    generalize Tr.put ko (h.next + 1) (some (.miter (some m) ml.length (seen ++ [i]) ml.length)) = O1 at hi1 hO1o ⊢
    have hm1 : MapAt Pr.av intAV O1 m ml := (hO1o m (by omega)).trans hmk
    have hc1 : O1.get h.next = some (.cells [v] h.next) := (hO1o _ (by omega)).trans hcell
    have hout1 : OutAt (h.next + 2) ⟨O1, kf, kn, h.next⟩ v 3 ((posX (handed ml seen)).map Xf.cells) := hout.keep (fun j h1 _ => hO1o j (by omega)) (fun _ _ _ => rfl) (Nat.le_refl _)
    have hen := fun fm nx lw => entry_map (h := ⟨O1, fm, nx, lw⟩) hm1 hi1 hie
    (repeat refine AWp.seq ?_)
    refine AWp.region ?_
    (repeat (first | refine AOps.v rfl rfl rfl rfl rfl (by simp only [evS, cond_tt, cond_ff, absV, depthV, Nat.reduceEqDiff, Nat.reduceLT, ↓reduceIte, Option.map_some, Option.bind_some, List.toList_toArray, op_entry, hen, Tryz.zero125, H.lay]; rfl) ?_ | refine AOps.s rfl rfl rfl ?_ | refine AOps.u rfl rfl rfl rfl (by simp only [evS, cond_tt, cond_ff, absV, depthV, Nat.reduceEqDiff, Nat.reduceLT, ↓reduceIte, Option.map_some, Option.bind_some, List.toList_toArray, op_entry, hen, Tryz.zero125, H.lay]; rfl) ?_))
    refine AOps.st rfl rfl rfl (by simp only [evS, cond_tt, cond_ff, absV, depthV, Nat.reduceEqDiff, Nat.reduceLT, ↓reduceIte, Option.map_some, Option.bind_some, List.toList_toArray]; rfl) (by simp only [evS, cond_tt, cond_ff, absV, depthV, Nat.reduceEqDiff, Nat.reduceLT, ↓reduceIte, Option.map_some, Option.bind_some, List.toList_toArray]; rfl) (by exact Tryz.size125) (by simp only [H.lay, put_get]; rfl) (by simp only [H.lay, put_get]; rfl) (by rfl) (by rfl) (cs' := [.str e.1.1, .str e.1.2]) (by rfl) (by exact minN_left (show h.next ≤ kn by omega)) ?_
    (repeat (first | refine AOps.v rfl rfl rfl rfl rfl (by simp only [evS, cond_tt, cond_ff, absV, depthV, Nat.reduceEqDiff, Nat.reduceLT, ↓reduceIte, Option.map_some, Option.bind_some, List.toList_toArray]; rfl) ?_ | refine AOps.s rfl rfl rfl ?_ | refine AOps.u rfl rfl rfl rfl (by simp only [evS, cond_tt, cond_ff, absV, depthV, Nat.reduceEqDiff, Nat.reduceLT, ↓reduceIte, Option.map_some, Option.bind_some, List.toList_toArray]; rfl) ?_))
    refine AOps.nil ?_
    have hO2o : ∀ j, j ≠ kn → (Tr.put (Tr.put O1 kn (some (.cells [.str [], .str []] kn))) kn (some (.cells [.str e.1.1, .str e.1.2] kn))).get j = O1.get j := fun j hj => by rw [put_other _ _ hj, put_other _ _ hj]
    have hrow2 : rowO (Tr.put (Tr.put O1 kn (some (.cells [.str [], .str []] kn))) kn (some (.cells [.str e.1.1, .str e.1.2] kn))) kn = some [.str e.1.1, .str e.1.2] := by rw [rowO_put, if_pos rfl]; rfl
    generalize Tr.put (Tr.put O1 kn (some (.cells [.str [], .str []] kn))) kn (some (.cells [.str e.1.1, .str e.1.2] kn)) = O2 at hO2o hrow2 ⊢
    have hF2o : ∀ j, j ≠ kn → (Tr.put kf kn (some (kn, kn))).get j = kf.get j := fun j hj => put_other _ _ hj
    generalize Tr.put kf kn (some (kn, kn)) = F2 at hF2o ⊢
    have hm2 : MapAt Pr.av intAV O2 m ml := (hO2o m (by have := hov.next; simp only at this; omega)).trans hm1
    have hc2 : O2.get h.next = some (.cells [v] h.next) := (hO2o _ (by omega)).trans hc1
    have hi2 : IterAt O2 (h.next + 1) m ml.length (seen ++ [i]) := (hO2o _ (by omega)).trans hi1
    have hfam2 : F2.get h.next = some (h.next, h.next) := (hF2o _ (by omega)).trans hfam
    have hout2 : OutAt (h.next + 2) ⟨O2, F2, kn + 1, h.next⟩ v 3 ((posX (handed ml seen)).map Xf.cells) := hout1.keep (fun j _ h2 => hO2o j (by simp only at h2; omega)) (fun j _ h2 => hF2o j (by simp only at h2; omega)) (Nat.le_succ _)
    have hrowc : rowO O2 h.next = some [v] := by unfold rowO; rw [hc2]; rfl
    have hov2 : Over h.next ⟨h.objs, h.fams, h.next, h.next⟩ ⟨O2, F2, kn + 1, h.next⟩ :=
      ⟨by show h.next ≤ kn + 1; omega, fun j hj => (hO2o j (by omega)).trans ((hO1o j (by omega)).trans (hov.objs j hj)), fun j hj => (hF2o j (by omega)).trans (hov.fams j hj), fun _ => rfl⟩
    have hseen : (seen ++ [i]).length ≤ ml.length := by
      have hnd' : (seen ++ [i]).Nodup := by
        rw [List.nodup_append]; exact ⟨hnd, by simp, fun a ha b hb => by simp at hb; subst hb; intro e; subst e; exact hin ha⟩
      have hsub : (seen ++ [i]) ⊆ List.range ml.length := fun j hj => by
        rw [List.mem_range]
        rcases List.mem_append.1 hj with hj | hj
        · exact hlt j hj
        · rw [List.mem_singleton.1 hj]; exact idx_lt hie
      have := hnd'.length_le_of_subset hsub
      rw [List.length_range] at this
      exact this
    have hnd' : (seen ++ [i]).Nodup := by
      rw [List.nodup_append]; exact ⟨hnd, by simp, fun a ha b hb => by simp at hb; subst hb; intro e; subst e; exact hin ha⟩
    have hlt' : ∀ j ∈ seen ++ [i], j < ml.length := fun j hj => by
      rcases List.mem_append.1 hj with hj | hj
      · exact hlt j hj
      · rw [List.mem_singleton.1 hj]; exact idx_lt hie
    rw [List.length_append, List.length_singleton] at hseen
    cases hbig : decide (1000000000000 < e.2)
    · have hbig' : e.2 ≤ 1000000000000 := by simpa using hbig
      have hle' : ∀ e' ∈ handed ml (seen ++ [i]), e'.2 ≤ 1000000000000 := fun e' he' => by
        rw [handed_snoc ml seen hie] at he'
        rcases List.mem_append.1 he' with he' | he'
        · exact hle e' he'
        · rw [List.mem_singleton.1 he']; exact hbig'
      (repeat refine AWp.seq ?_); change AWp _ _ _ _ _; refine AWp.region ?_; (repeat (first | refine AOps.v rfl rfl rfl rfl rfl (by simp only [evS, cond_tt, cond_ff, absV, depthV, Nat.reduceEqDiff, Nat.reduceLT, ↓reduceIte, Option.map_some, Option.bind_some, List.toList_toArray, intAV, hbig]; rfl) ?_ | refine AOps.s rfl rfl rfl ?_ | refine AOps.u rfl rfl rfl rfl (by simp only [evS, cond_tt, cond_ff, absV, depthV, Nat.reduceEqDiff, Nat.reduceLT, ↓reduceIte, Option.map_some, Option.bind_some, List.toList_toArray, intAV, hbig]; rfl) ?_)); refine AOps.nil ?_
      (repeat refine AWp.seq ?_); change AWp _ _ _ _ _; refine AWp.no (by rfl) (by rfl) (AWp.skip ?_)
      cases hpos : decide (0 < e.2)
      · have hpos' : ¬ 0 < e.2 := by simpa using hpos
        (repeat refine AWp.seq ?_); change AWp _ _ _ _ _; refine AWp.region ?_; (repeat (first | refine AOps.v rfl rfl rfl rfl rfl (by simp only [evS, cond_tt, cond_ff, absV, depthV, Nat.reduceEqDiff, Nat.reduceLT, ↓reduceIte, Option.map_some, Option.bind_some, List.toList_toArray, intAV, hpos]; rfl) ?_ | refine AOps.s rfl rfl rfl ?_ | refine AOps.u rfl rfl rfl rfl (by simp only [evS, cond_tt, cond_ff, absV, depthV, Nat.reduceEqDiff, Nat.reduceLT, ↓reduceIte, Option.map_some, Option.bind_some, List.toList_toArray, intAV, hpos]; rfl) ?_)); refine AOps.nil ?_
        (repeat refine AWp.seq ?_); change AWp _ _ _ _ _; refine AWp.no (by rfl) (by rfl) (AWp.skip ?_)
        refine ⟨ml.length - (seen.length + 1), by omega, seen ++ [i], ⟨O2, F2, kn + 1, h.next⟩, v, by simp, hnd', hlt', hle', hov2, hc2, hfam2, hi2, ?_, by show h.next + 2 ≤ kn + 1; omega, rfl, rfl, rfl, rfl, rfl, rfl, rfl, trivial⟩
        rw [handed_snoc ml seen hie, posX_snoc, if_neg hpos']; exact hout2
      · have hpos' : 0 < e.2 := by simpa using hpos
        (repeat refine AWp.seq ?_); change AWp _ _ _ _ _; refine AWp.region ?_; (repeat (first | refine AOps.v rfl rfl rfl rfl rfl (by simp only [evS, cond_tt, cond_ff, absV, depthV, Nat.reduceEqDiff, Nat.reduceLT, ↓reduceIte, Option.map_some, Option.bind_some, List.toList_toArray, intAV, hpos]; rfl) ?_ | refine AOps.s rfl rfl rfl ?_ | refine AOps.u rfl rfl rfl rfl (by simp only [evS, cond_tt, cond_ff, absV, depthV, Nat.reduceEqDiff, Nat.reduceLT, ↓reduceIte, Option.map_some, Option.bind_some, List.toList_toArray, intAV, hpos]; rfl) ?_)); refine AOps.nil ?_
        (repeat refine AWp.seq ?_); change AWp _ _ _ _ _; refine AWp.yes (by rfl) (by rfl) ?_
        (repeat refine AWp.seq ?_)
        refine AWp.region ?_
        (repeat (first | refine AOps.v rfl rfl rfl rfl rfl (by simp only [evS, cond_tt, cond_ff, absV, depthV, Nat.reduceEqDiff, Nat.reduceLT, ↓reduceIte, Option.map_some, Option.bind_some, List.toList_toArray, load_agg Tryz.agg60 Tryz.size60, load_agg Tryz.agg125 Tryz.size125, load_one Tryz.agg9, load_one Tryz.agg3, load_one Tryz.agg56, Tryz.fa60_0, Tryz.fa60_1, Tryz.fa60_2, Tryz.fa125_0, Tryz.fa125_1, len_slice Tryz.underlying56, H.lay, rowO_put, rowA_cells, Nat.zero_add, Nat.add_zero, ↓reduceIte, hrowc, hrow2, op_buildSlice, partsA_cons, partsA_nil, build60, buildS56, intAV]; rfl) ?_ | refine AOps.s rfl rfl rfl ?_ | refine AOps.u rfl rfl rfl rfl (by simp only [evS, cond_tt, cond_ff, absV, depthV, Nat.reduceEqDiff, Nat.reduceLT, ↓reduceIte, Option.map_some, Option.bind_some, List.toList_toArray, load_agg Tryz.agg60 Tryz.size60, load_agg Tryz.agg125 Tryz.size125, load_one Tryz.agg9, load_one Tryz.agg3, load_one Tryz.agg56, Tryz.fa60_0, Tryz.fa60_1, Tryz.fa60_2, Tryz.fa125_0, Tryz.fa125_1, len_slice Tryz.underlying56, H.lay, rowO_put, rowA_cells, Nat.zero_add, Nat.add_zero, ↓reduceIte, hrowc, hrow2, op_buildSlice, partsA_cons, partsA_nil, build60, buildS56, intAV]; rfl) ?_))
        have hrowy : rowO (Tr.put O2 (kn + 1) (some (.cells (Xf.mk e.1.1 e.1.2 e.2).cells (kn + 1)))) (kn + 1) = some [(Xf.mk e.1.1 e.1.2 e.2).cells].flatten := by rw [rowO_put, if_pos rfl]; simp [rowA_cells]
        have hO3o : ∀ j, j ≠ kn + 1 → (Tr.put O2 (kn + 1) (some (.cells (Xf.mk e.1.1 e.1.2 e.2).cells (kn + 1)))).get j = O2.get j := fun j hj => put_other _ _ hj
        generalize Tr.put O2 (kn + 1) (some (.cells (Xf.mk e.1.1 e.1.2 e.2).cells (kn + 1))) = O3 at hrowy hO3o ⊢
        have hF3o : ∀ j, j ≠ kn + 1 → (Tr.put F2 (kn + 1) (some (kn + 1, kn + 1))).get j = F2.get j := fun j hj => put_other _ _ hj
        generalize Tr.put F2 (kn + 1) (some (kn + 1, kn + 1)) = F3 at hF3o ⊢
        have hout3 : OutAt (h.next + 2) ⟨O3, F3, kn + 1 + 1, h.next⟩ v 3 ((posX (handed ml seen)).map Xf.cells) := hout2.keep (fun j _ h2 => hO3o j (by simp only at h2; omega)) (fun j _ h2 => hF3o j (by simp only at h2; omega)) (Nat.le_succ _)
        have hlx : ((posX (handed ml seen)).map Xf.cells).length ≤ 1000000 := by
          rw [List.length_map]
          have h1 : (posX (handed ml seen)).length ≤ (handed ml seen).length := by unfold posX; rw [List.length_map]; exact List.length_filter_le _ _
          have h2 : (handed ml seen).length ≤ seen.length := by unfold handed; exact List.length_filterMap_le _ _
          omega
        obtain ⟨v', ⟨o4, f4, n4, l4⟩, happ, hout4, hov4, hn4⟩ := append_out Tryz.underlying56 Tryz.underlying56 Tryz.info60 Tryz.zero60 rfl rfl (show (3 : Nat) ≠ 0 by decide) (by decide) hout3 (by show h.next + 2 ≤ kn + 1 + 1; omega) (new := [(Xf.mk e.1.1 e.1.2 e.2).cells]) (y := .slice (some (kn + 1, 0)) 1 3 (some 1)) rfl hrowy (by intro r hr; rw [List.mem_singleton.1 hr]; rfl) (by simp [one_cells]) (by simp) hlx (by simp)
        have hl4 : l4 = h.next := hov4.low (by show h.next ≤ h.next + 2; omega)
        subst hl4
        simp only at hn4
        have hc4 : o4.get h.next = some (.cells [v] h.next) := (hov4.objs _ (by omega)).trans ((hO3o _ (by omega)).trans hc2)
        have hf4 : f4.get h.next = some (h.next, h.next) := (hov4.fams _ (by omega)).trans ((hF3o _ (by omega)).trans hfam2)
        (repeat (first | refine AOps.v rfl rfl rfl rfl rfl (by simp only [evS, cond_tt, cond_ff, absV, depthV, Nat.reduceEqDiff, Nat.reduceLT, ↓reduceIte, Option.map_some, Option.bind_some, List.toList_toArray, bi_append, happ]; rfl) ?_ | refine AOps.s rfl rfl rfl ?_ | refine AOps.u rfl rfl rfl rfl (by simp only [evS, cond_tt, cond_ff, absV, depthV, Nat.reduceEqDiff, Nat.reduceLT, ↓reduceIte, Option.map_some, Option.bind_some, List.toList_toArray, bi_append, happ]; rfl) ?_))
        refine AOps.st rfl rfl rfl (by simp only [evS, cond_tt, cond_ff, absV, depthV, Nat.reduceEqDiff, Nat.reduceLT, ↓reduceIte, Option.map_some, Option.bind_some, List.toList_toArray]; rfl) (by simp only [evS, cond_tt, cond_ff, absV, depthV, Nat.reduceEqDiff, Nat.reduceLT, ↓reduceIte, Option.map_some, Option.bind_some, List.toList_toArray]; rfl) (by rw [OutAt.one hout4]; exact Tryz.size56) hc4 hf4 (by rw [OutAt.one hout4]; rfl) (by rw [OutAt.one hout4, List.all_cons, OutAt.oneC hout4]; rfl) (cs' := [v']) (by rw [OutAt.one hout4]; rfl) (minN_self _) ?_
        refine AOps.nil ?_
        refine ⟨ml.length - (seen.length + 1), by omega, seen ++ [i], ⟨o4.put h.next (some (.cells [v'] h.next)), f4, n4, h.next⟩, v', by simp, hnd', hlt', hle', ?_, put_same _ _ _, hf4, ?_, ?_, by show h.next + 2 ≤ n4; omega, rfl, rfl, rfl, rfl, rfl, rfl, rfl, trivial⟩
        · refine ⟨by show h.next ≤ n4; omega, fun j hj => ?_, fun j hj => ?_, fun _ => rfl⟩
          · show (Tr.put o4 h.next _).get j = _
            rw [put_other _ _ (by omega)]
            exact (hov4.objs j (by omega)).trans ((hO3o j (by omega)).trans (hov2.objs j hj))
          · exact (hov4.fams j (by omega)).trans ((hF3o j (by omega)).trans (hov2.fams j hj))
        · show (Tr.put o4 h.next _).get (h.next + 1) = _
          rw [put_other _ _ (by omega)]
          exact (hov4.objs _ (by omega)).trans ((hO3o _ (by omega)).trans hi2)
        · rw [handed_snoc ml seen hie, posX_snoc, if_pos hpos', List.map_append]
          exact hout4.keep (fun j h1 _ => put_other _ _ (by omega)) (fun _ _ _ => rfl) (Nat.le_refl _)
    · have hbig' : 1000000000000 < e.2 := by simpa using hbig
      (repeat refine AWp.seq ?_); change AWp _ _ _ _ _; refine AWp.region ?_; (repeat (first | refine AOps.v rfl rfl rfl rfl rfl (by simp only [evS, cond_tt, cond_ff, absV, depthV, Nat.reduceEqDiff, Nat.reduceLT, ↓reduceIte, Option.map_some, Option.bind_some, List.toList_toArray, intAV, hbig]; rfl) ?_ | refine AOps.s rfl rfl rfl ?_ | refine AOps.u rfl rfl rfl rfl (by simp only [evS, cond_tt, cond_ff, absV, depthV, Nat.reduceEqDiff, Nat.reduceLT, ↓reduceIte, Option.map_some, Option.bind_some, List.toList_toArray, intAV, hbig]; rfl) ?_)); refine AOps.nil ?_
      (repeat refine AWp.seq ?_); change AWp _ _ _ _ _; refine AWp.yes (by rfl) (by rfl) ?_
      (repeat refine AWp.seq ?_); change AWp _ _ _ _ _; refine AWp.region ?_; (repeat (first | refine AOps.v rfl rfl rfl rfl rfl (by simp only [evS, cond_tt, cond_ff, absV, depthV, Nat.reduceEqDiff, Nat.reduceLT, ↓reduceIte, Option.map_some, Option.bind_some, List.toList_toArray]; rfl) ?_ | refine AOps.s rfl rfl rfl ?_ | refine AOps.u rfl rfl rfl rfl (by simp only [evS, cond_tt, cond_ff, absV, depthV, Nat.reduceEqDiff, Nat.reduceLT, ↓reduceIte, Option.map_some, Option.bind_some, List.toList_toArray]; rfl) ?_)); refine AOps.nil ?_
      refine AWp.ret ?_
      (try simp only [OutOf, Then, Round, NoGoto])
      exact leaves_plain (by rfl) (by rfl) (fun _ => rfl) (by rfl) (.inl ⟨⟨e, List.mem_of_getElem? hie, hbig'⟩, rfl, rfl⟩)

end Go.Proofs

/- Seat r1: settle.Due. No conditions beyond those that each theorem states. -/
namespace Go.Proofs
open Go.Ev
set_option maxRecDepth 100000

theorem snocRec {α : Type} {motive : List α → Prop} (nil : motive []) (snoc : ∀ (l : List α) (a : α), motive l → motive (l ++ [a])) (l : List α) : motive l := by
  have h : ∀ r : List α, motive r.reverse := fun r => by
    induction r with
    | nil => exact nil
    | cons a r ih => rw [List.reverse_cons]; exact snoc _ _ ih
  have := h l.reverse
  rwa [List.reverse_reverse] at this

theorem rdS_over {h h' : H} (hov : Over h.next h h') {v : AV} {s : Nat} {rows : List (List AV)} (hr : RdS h v s rows) : RdS h' v s rows := by
  refine ⟨hr.wide, ?_⟩
  rcases hr.at' with h1 | ⟨i, off, cap, cs, h1, h2, h3, h4⟩
  · exact .inl h1
  · refine .inr ⟨i, off, cap, cs, h1, Nat.lt_of_lt_of_le h2 hov.next, ?_, h4⟩
    unfold rowO at h3 ⊢
    rw [hov.objs i h2]; exact h3

def revP (p : Pr) : Pr := (p.2, p.1)
/-- One entry's part in what is due. -/
def netE (net : List (Pr × Int)) (e : Pr × Int) : List (Pr × Int) :=
  putM (revP e.1) (getM 0 (revP e.1) (putM e.1 (getM 0 e.1 net + e.2) net) - e.2) (putM e.1 (getM 0 e.1 net + e.2) net)
def netL (l : List (Pr × Int)) : List (Pr × Int) := l.foldl netE []
theorem netL_snoc (l : List (Pr × Int)) (e : Pr × Int) : netL (l ++ [e]) = netE (netL l) e := by unfold netL; rw [List.foldl_append]; rfl

theorem netL_get : ∀ (l : List (Pr × Int)), nodupM l → ∀ k, getM 0 k (netL l) = getM 0 k l - getM 0 (revP k) l := by
  intro l
  induction l using snocRec with
  | nil => intro _ k; simp [netL, getM]
  | snoc l e ih =>
    intro hn k
    have hn' : nodupM l := by
      unfold nodupM at hn ⊢
      rw [List.map_append, List.nodup_append] at hn; exact hn.1
    have hno : hasM e.1 l = false := by
      unfold nodupM at hn
      rw [List.map_append, List.nodup_append] at hn
      cases hh : hasM e.1 l
      · rfl
      · exact absurd rfl (hn.2.2 _ (hasM_mem.1 hh) e.1 (by simp))
    have happ : ∀ k, getM 0 k (l ++ [e]) = if k = e.1 then e.2 else getM 0 k l := fun k => by
      have : l ++ [e] = putM e.1 e.2 l := (putM_not hno).symm
      rw [this, getM_put]
    have h0 := getM_not (u0 := (0 : Int)) hno
    rw [netL_snoc, happ, happ]
    unfold netE
    simp only [getM_put, ih hn']
    have hrr : ∀ a b : Pr, (revP a = b) = (a = revP b) := fun a b => by
      obtain ⟨a1, a2⟩ := a; obtain ⟨b1, b2⟩ := b
      simp only [revP, Prod.mk.injEq, eq_iff_iff]; exact ⟨fun h => ⟨h.2, h.1⟩, fun h => ⟨h.2, h.1⟩⟩
    have hr2 : ∀ a : Pr, revP (revP a) = a := fun a => rfl
    by_cases h1 : k = e.1
    · by_cases h2 : k = revP e.1
      · have h3 : revP k = e.1 := by rw [hrr]; exact h2
        have h4 : revP e.1 = e.1 := by rw [← h2, h1]
        simp only [h1, h3, h4, if_true, h0]
        simp
      · have h3 : ¬ revP k = e.1 := by rw [hrr]; exact h2
        have h5 : ¬ e.1 = revP e.1 := by rw [← h1]; rw [h1] at h2 ⊢; exact h2
        have h6 : ¬ revP e.1 = e.1 := fun h => h5 h.symm
        simp only [h1, h5, h6, if_true, if_false, h0]
        omega
    · by_cases h2 : k = revP e.1
      · have h3 : revP k = e.1 := by rw [hrr]; exact h2
        have h5 : ¬ revP e.1 = e.1 := by rw [← h2]; exact h1
        simp only [h2, h5, if_true, if_false, hr2, h0]
        omega
      · have h3 : ¬ revP k = e.1 := by rw [hrr]; exact h2
        simp only [h1, h2, h3, if_false]

/-- What is owed from the one to the other by a list. -/
def sumX (ts : List Xf) (k : Pr) : Int := (ts.map fun t => if t.key = k then t.am else 0).sum

theorem addL_get (times : Int) (ml : List (Pr × Int)) (k : Pr) : ∀ (ts : List Xf), getM 0 k (addL times ml ts) = getM 0 k ml + times * sumX ts k := by
  intro ts
  induction ts using snocRec with
  | nil => simp [addL, sumX]
  | snoc ts t ih =>
    rw [addL_snoc, getM_put]
    have hs : sumX (ts ++ [t]) k = sumX ts k + if t.key = k then t.am else 0 := by
      unfold sumX; rw [List.map_append, List.sum_append]; simp
    rw [hs]
    by_cases h : k = t.key
    · subst h
      rw [if_pos rfl, if_pos rfl, ih, Int.mul_add]; omega
    · rw [if_neg h, if_neg (fun e => h e.symm), ih, Int.add_zero]

theorem addL_nodup (times : Int) : ∀ (ts : List Xf) (ml : List (Pr × Int)), nodupM ml → nodupM (addL times ml ts)
  | [], ml, h => h
  | t :: ts, ml, h => addL_nodup times ts _ (nodup_put h)

theorem putM_len {K U : Type} [DecidableEq K] (k : K) (v : U) : ∀ l : List (K × U), (putM k v l).length ≤ l.length + 1
  | [] => by simp [putM]
  | e :: l => by
    unfold putM
    split
    · simp
    · have := putM_len k v l; simp; omega

theorem addL_len (times : Int) : ∀ (ts : List Xf) (ml : List (Pr × Int)), (addL times ml ts).length ≤ ml.length + ts.length
  | [], ml => by simp [addL]
  | t :: ts, ml => by
    have h1 := addL_len times ts (putM t.key (getM 0 t.key ml + times * t.am) ml)
    have h2 := putM_len t.key (getM 0 t.key ml + times * t.am) ml
    have : addL times ml (t :: ts) = addL times (putM t.key (getM 0 t.key ml + times * t.am) ml) ts := rfl
    rw [this, List.length_cons]; omega

theorem netL_len : ∀ (l : List (Pr × Int)), (netL l).length ≤ 2 * l.length := by
  intro l
  induction l using snocRec with
  | nil => simp [netL]
  | snoc l e ih =>
    rw [netL_snoc]
    unfold netE
    have h1 := putM_len (revP e.1) (getM 0 (revP e.1) (putM e.1 (getM 0 e.1 (netL l) + e.2) (netL l)) - e.2) (putM e.1 (getM 0 e.1 (netL l) + e.2) (netL l))
    have h2 := putM_len e.1 (getM 0 e.1 (netL l) + e.2) (netL l)
    rw [List.length_append, List.length_singleton]; omega

theorem netL_nodup : ∀ (l : List (Pr × Int)), nodupM (netL l) := by
  intro l
  induction l using snocRec with
  | nil => exact List.nodup_nil
  | snoc l e ih => rw [netL_snoc]; exact nodup_put (nodup_put ih)

theorem netL_bnd {B : Int} (hB : 0 ≤ B) : ∀ (l : List (Pr × Int)), (∀ e ∈ l, -B ≤ e.2 ∧ e.2 ≤ B) → bndM (2 * l.length * B) (netL l) := by
  intro l
  induction l using snocRec with
  | nil => intro _ k; simp [netL, getM]
  | snoc l e ih =>
    intro h k
    have ih' := ih fun e he => h e (List.mem_append_left _ he)
    have he := h e (by simp)
    have e1 : (2 * ((l ++ [e]).length : Int) * B) = 2 * (l.length : Int) * B + 2 * B := by
      rw [List.length_append, List.length_singleton]; push_cast; rw [Int.mul_add, Int.add_mul]; omega
    rw [e1, netL_snoc]
    unfold netE
    generalize 2 * (l.length : Int) * B = C at ih'
    have a1 := ih' k
    have a2 := ih' e.1
    have a3 := ih' (revP e.1)
    simp only [getM_put]
    split <;> split <;> omega

end Go.Proofs

/- Seat r1: settle.Due. No conditions beyond those that each theorem states. -/
namespace Go.Proofs
open Go.Ev
set_option maxRecDepth 100000

def oddX (owed paid : List Xf) : Bool := owed.any (fun t => !t.ok) || paid.any (fun t => !t.ok)
def dueX (owed paid : List Xf) (k : Pr) : Int := (sumX owed k - sumX paid k) - (sumX owed (revP k) - sumX paid (revP k))
def DueQ (h : H) (owed paid : List Xf) (v : AV) (h' : H) : Prop :=
  (oddX owed paid = true ∧ v = .tup [.slice none 0 0 (some 0), .int .i64 1] ∧ h' = h) ∨
  (oddX owed paid = false ∧ ∃ net, nodupM net ∧ (∀ k, getM 0 k net = dueX owed paid k) ∧ TransQ h net v h')

theorem ok_am {ts : List Xf} (h : ts.any (fun t => !t.ok) = false) : ∀ t ∈ ts, 0 ≤ t.am ∧ t.am ≤ 1000000000000 := by
  intro t ht
  rw [List.any_eq_false] at h
  have := h t ht
  simp only [Bool.not_eq_true, Bool.not_eq_false'] at this
  unfold Xf.ok isAm at this
  simp only [Bool.and_eq_true, decide_eq_true_eq] at this
  exact this.2.2.2

theorem getM_perm {l l' : List (Pr × Int)} (hn : nodupM l) (hn' : nodupM l') (hp : l.Perm l') (k : Pr) : getM 0 k l = getM 0 k l' := by
  cases hh : hasM k l'
  · have : hasM k l = false := by
      cases h2 : hasM k l
      · rfl
      · have := hasM_mem.1 h2
        rw [(hp.map _).mem_iff] at this
        rw [hasM_mem.2 this] at hh; cases hh
    rw [getM_not hh, getM_not this]
  · have h1 := mem_of_hasM (u0 := 0) hh
    exact getM_of_mem hn (hp.mem_iff.2 h1)

theorem buildL (v : AV) (hv : v.cells = [v]) : buildSliceA Tryz.prog 163 1 [(0, v)] = some (1, [v]) := by
  unfold buildSliceA
  rw [Tryz.underlying163]
  simp only [Tryz.size56, Tryz.zero56, Option.bind_some]
  show _root_.cond _ (Option.map _ (fillA _ [.slice none 0 0 (some 0)] [(0, v)])) none = _
  simp only [fillA, hv, List.length_cons, List.length_nil]
  rfl

set_option maxHeartbeats 4000000 in
theorem Tryz.due (hsort : SortSaid) (owed paid : List Xf) (ho : ∀ t ∈ owed, t.fits) (hp : ∀ t ∈ paid, t.fits) (hlo : owed.length ≤ 300) (hlp : paid.length ≤ 300) (v w : AV) (h : H) (hv : RdX h v owed) (hw : RdX h w paid) :
    ACalls Tryz.prog (.func 25) [v, w] h (DueQ h owed paid) := by
  refine ACalls.body (n := 58) Tryz.nogo Tryz.func25 rfl rfl ?_
  rw [argF2]
  have hc1 := Tryz.containsX owed (fun t => !t.ok) 47 (fun t ht h => Tryz.odd t (ho t ht) h) v ⟨h.objs, h.fams, h.next, h.next⟩ ⟨hv.wide, hv.at'⟩ (by omega)
  have hc2 := Tryz.containsX paid (fun t => !t.ok) 47 (fun t ht h => Tryz.odd t (hp t ht) h) w ⟨h.objs, h.fams, h.next, h.next⟩ ⟨hw.wide, hw.at'⟩ (by omega)
  (repeat refine AWp.seq ?_); change AWp _ _ _ _ _; refine AWp.region ?_; (repeat (first | refine AOps.v rfl rfl rfl rfl rfl (by simp only [evS, cond_tt, cond_ff, absV, depthV, Nat.reduceEqDiff, Nat.reduceLT, ↓reduceIte, Option.map_some, Option.bind_some, List.toList_toArray]; rfl) ?_ | refine AOps.s rfl rfl rfl ?_ | refine AOps.u rfl rfl rfl rfl (by simp only [evS, cond_tt, cond_ff, absV, depthV, Nat.reduceEqDiff, Nat.reduceLT, ↓reduceIte, Option.map_some, Option.bind_some, List.toList_toArray]; rfl) ?_)); refine AOps.nil ?_
  (repeat refine AWp.seq ?_); change AWp _ _ _ _ _; refine AWp.region ?_; (repeat (first | refine AOps.v rfl rfl rfl rfl rfl (by simp only [evS, cond_tt, cond_ff, absV, depthV, Nat.reduceEqDiff, Nat.reduceLT, ↓reduceIte, Option.map_some, Option.bind_some, List.toList_toArray]; rfl) ?_ | refine AOps.s rfl rfl rfl ?_ | refine AOps.u rfl rfl rfl rfl (by simp only [evS, cond_tt, cond_ff, absV, depthV, Nat.reduceEqDiff, Nat.reduceLT, ↓reduceIte, Option.map_some, Option.bind_some, List.toList_toArray]; rfl) ?_)); refine AOps.nil ?_
  (repeat refine AWp.seq ?_); change AWp _ _ _ _ _; refine AWp.region ?_; (repeat (first | refine AOps.v rfl rfl rfl rfl rfl (by simp only [evS, cond_tt, cond_ff, absV, depthV, Nat.reduceEqDiff, Nat.reduceLT, ↓reduceIte, Option.map_some, Option.bind_some, List.toList_toArray]; rfl) ?_ | refine AOps.s rfl rfl rfl ?_ | refine AOps.u rfl rfl rfl rfl (by simp only [evS, cond_tt, cond_ff, absV, depthV, Nat.reduceEqDiff, Nat.reduceLT, ↓reduceIte, Option.map_some, Option.bind_some, List.toList_toArray]; rfl) ?_))
  refine AOps.c rfl rfl rfl rfl rfl (by simp only [callOf_val, callW_fn, evS, cond_tt, cond_ff, absV, depthV, Nat.reduceEqDiff, Nat.reduceLT, ↓reduceIte, Option.map_some, Option.bind_some, List.toList_toArray]; rfl) rfl (hc1) ?_; rintro _ _ ⟨rfl, rfl⟩
  cases e1 : owed.any (fun t => !t.ok)
  · (repeat (first | refine AOps.v rfl rfl rfl rfl rfl (by simp only [evS, cond_tt, cond_ff, absV, depthV, Nat.reduceEqDiff, Nat.reduceLT, ↓reduceIte, Option.map_some, Option.bind_some, List.toList_toArray]; rfl) ?_ | refine AOps.s rfl rfl rfl ?_ | refine AOps.u rfl rfl rfl rfl (by simp only [evS, cond_tt, cond_ff, absV, depthV, Nat.reduceEqDiff, Nat.reduceLT, ↓reduceIte, Option.map_some, Option.bind_some, List.toList_toArray]; rfl) ?_))
    refine AOps.c rfl rfl rfl rfl rfl (by simp only [callOf_val, callW_fn, evS, cond_tt, cond_ff, absV, depthV, Nat.reduceEqDiff, Nat.reduceLT, ↓reduceIte, Option.map_some, Option.bind_some, List.toList_toArray]; rfl) rfl (hc2) ?_; rintro _ _ ⟨rfl, rfl⟩
    cases e2 : paid.any (fun t => !t.ok)
    · (repeat (first | refine AOps.v rfl rfl rfl rfl rfl (by simp only [evS, cond_tt, cond_ff, absV, depthV, Nat.reduceEqDiff, Nat.reduceLT, ↓reduceIte, Option.map_some, Option.bind_some, List.toList_toArray]; rfl) ?_ | refine AOps.s rfl rfl rfl ?_ | refine AOps.u rfl rfl rfl rfl (by simp only [evS, cond_tt, cond_ff, absV, depthV, Nat.reduceEqDiff, Nat.reduceLT, ↓reduceIte, Option.map_some, Option.bind_some, List.toList_toArray]; rfl) ?_))
      refine AOps.nil ?_
      (repeat refine AWp.seq ?_); change AWp _ _ _ _ _; refine AWp.no (by rfl) (by rfl) (AWp.skip ?_)
      have hodd : oddX owed paid = false := by unfold oddX; rw [e1, e2]; rfl
      have hvo : v.cells = [v] := by obtain ⟨o, e, c, rfl⟩ := hv.len; rfl
      have hwo : w.cells = [w] := by obtain ⟨o, e, c, rfl⟩ := hw.len; rfl
      (repeat refine AWp.seq ?_); change AWp _ _ _ _ _; refine AWp.region ?_; (repeat (first | refine AOps.v rfl rfl rfl rfl rfl (by simp only [evS, cond_tt, cond_ff, absV, depthV, Nat.reduceEqDiff, Nat.reduceLT, ↓reduceIte, Option.map_some, Option.bind_some, List.toList_toArray, op_makeMap, H.lay]; rfl) ?_ | refine AOps.s rfl rfl rfl ?_ | refine AOps.u rfl rfl rfl rfl (by simp only [evS, cond_tt, cond_ff, absV, depthV, Nat.reduceEqDiff, Nat.reduceLT, ↓reduceIte, Option.map_some, Option.bind_some, List.toList_toArray, op_makeMap, H.lay]; rfl) ?_)); refine AOps.nil ?_
      (repeat refine AWp.seq ?_)
      refine AWp.region ?_
      (repeat (first | refine AOps.v rfl rfl rfl rfl rfl (by simp only [evS, cond_tt, cond_ff, absV, depthV, Nat.reduceEqDiff, Nat.reduceLT, ↓reduceIte, Option.map_some, Option.bind_some, List.toList_toArray, op_buildSlice, partsA_cons, partsA_nil, buildL v hvo, H.lay]; rfl) ?_ | refine AOps.s rfl rfl rfl ?_ | refine AOps.u rfl rfl rfl rfl (by simp only [evS, cond_tt, cond_ff, absV, depthV, Nat.reduceEqDiff, Nat.reduceLT, ↓reduceIte, Option.map_some, Option.bind_some, List.toList_toArray, op_buildSlice, partsA_cons, partsA_nil, buildL v hvo, H.lay]; rfl) ?_))
      have hA1 : MapAt Pr.av intAV (Tr.put (Tr.put h.objs h.next (some (.map [] 0))) (h.next + 1) (some (.cells [v] (h.next + 1)))) h.next [] := by
        unfold MapAt; rw [put_other _ _ (by omega), put_same]; rfl
      have hL1 : rowO (Tr.put (Tr.put h.objs h.next (some (.map [] 0))) (h.next + 1) (some (.cells [v] (h.next + 1)))) (h.next + 1) = some [v] := by rw [rowO_put, if_pos rfl]; rfl
      have hO1 : ∀ j, j < h.next → (Tr.put (Tr.put h.objs h.next (some (.map [] 0))) (h.next + 1) (some (.cells [v] (h.next + 1)))).get j = h.objs.get j := fun j hj => by rw [put_other _ _ (by omega), put_other _ _ (by omega)]
      generalize Tr.put (Tr.put h.objs h.next (some (.map [] 0))) (h.next + 1) (some (.cells [v] (h.next + 1))) = O1 at hA1 hL1 hO1 ⊢
      have hF1 : ∀ j, j < h.next → (Tr.put h.fams (h.next + 1) (some (h.next + 1, h.next + 1))).get j = h.fams.get j := fun j hj => put_other _ _ (by omega)
      generalize Tr.put h.fams (h.next + 1) (some (h.next + 1, h.next + 1)) = F1 at hF1 ⊢
      have hov1 : Over h.next ⟨h.objs, h.fams, h.next, h.next⟩ ⟨O1, F1, h.next + 1 + 1, h.next⟩ := ⟨by show h.next ≤ h.next + 1 + 1; omega, hO1, hF1, fun _ => rfl⟩
      have hadd1 := Tryz.add 1 (.inl rfl) owed (ok_am e1) (by omega) v (.slice (some (h.next + 1, 0)) 1 1 (some 1)) h.next [] ⟨O1, F1, h.next + 1 + 1, h.next⟩ hA1 (by show h.next < h.next + 1 + 1; omega) (fun k => by simp only [getM]; omega)
        (rdS_over (h := ⟨h.objs, h.fams, h.next, h.next⟩) hov1 ⟨hv.wide, hv.at'⟩) ⟨by intro r hr; rw [List.mem_singleton.1 hr]; rfl, .inr ⟨h.next + 1, 0, some 1, [v], rfl, Nat.lt_succ_self _, hL1, by simp, rfl⟩⟩
      refine AOps.c rfl rfl rfl rfl rfl (by simp only [callOf_val, callW_fn, evS, cond_tt, cond_ff, absV, depthV, Nat.reduceEqDiff, Nat.reduceLT, ↓reduceIte, Option.map_some, Option.bind_some, List.toList_toArray]; rfl) rfl hadd1 ?_
      rintro r1 ⟨o1, f1, n1, l1⟩ ⟨hm1, hu1, hl1⟩
      have hl1 : l1 = h.next := hl1 h.next rfl (Nat.le_refl _) (by show h.next ≤ h.next + 1 + 1; omega)
      subst hl1
      have hn1 : h.next + 1 + 1 ≤ n1 := hu1.next
      have hov2 : Over h.next ⟨h.objs, h.fams, h.next, h.next⟩ ⟨o1, f1, n1, h.next⟩ := hov1.trans ⟨hu1.next, fun j hj => hu1.objs j (by show j < h.next + 1 + 1; omega) (by omega), fun j hj => hu1.fams j (by show j < h.next + 1 + 1; omega), fun _ => rfl⟩
      simp only at hm1
      refine AOps.nil ?_
      (repeat refine AWp.seq ?_)
      refine AWp.region ?_
      (repeat (first | refine AOps.v rfl rfl rfl rfl rfl (by simp only [evS, cond_tt, cond_ff, absV, depthV, Nat.reduceEqDiff, Nat.reduceLT, ↓reduceIte, Option.map_some, Option.bind_some, List.toList_toArray, op_buildSlice, partsA_cons, partsA_nil, buildL w hwo, H.lay]; rfl) ?_ | refine AOps.s rfl rfl rfl ?_ | refine AOps.u rfl rfl rfl rfl (by simp only [evS, cond_tt, cond_ff, absV, depthV, Nat.reduceEqDiff, Nat.reduceLT, ↓reduceIte, Option.map_some, Option.bind_some, List.toList_toArray, op_buildSlice, partsA_cons, partsA_nil, buildL w hwo, H.lay]; rfl) ?_))
      have hA2 : MapAt Pr.av intAV (Tr.put o1 n1 (some (.cells [w] n1))) h.next (addL 1 [] owed) := by
        unfold MapAt; rw [put_other _ _ (by omega)]; exact hm1
      have hL2 : rowO (Tr.put o1 n1 (some (.cells [w] n1))) n1 = some [w] := by rw [rowO_put, if_pos rfl]; rfl
      have hO2 : ∀ j, j < h.next → (Tr.put o1 n1 (some (.cells [w] n1))).get j = o1.get j := fun j hj => put_other _ _ (by omega)
      generalize Tr.put o1 n1 (some (.cells [w] n1)) = O2 at hA2 hL2 hO2 ⊢
      have hF2 : ∀ j, j < h.next → (Tr.put f1 n1 (some (n1, n1))).get j = f1.get j := fun j hj => put_other _ _ (by omega)
      generalize Tr.put f1 n1 (some (n1, n1)) = F2 at hF2 ⊢
      have hov3 : Over h.next ⟨h.objs, h.fams, h.next, h.next⟩ ⟨O2, F2, n1 + 1, h.next⟩ := hov2.trans ⟨Nat.le_succ _, hO2, hF2, fun _ => rfl⟩
      have hb1 := addL_bnd (times := 1) (.inl rfl) (B := 0) (ml := []) (fun k => by simp [getM]) owed.length owed rfl (ok_am e1)
      have hadd2 := Tryz.add (-1) (.inr rfl) paid (ok_am e2) (by omega) w (.slice (some (n1, 0)) 1 1 (some 1)) h.next (addL 1 [] owed) ⟨O2, F2, n1 + 1, h.next⟩ hA2 (by show h.next < n1 + 1; omega) (fun k => by have := hb1 k; omega)
        (rdS_over (h := ⟨h.objs, h.fams, h.next, h.next⟩) hov3 ⟨hw.wide, hw.at'⟩) ⟨by intro r hr; rw [List.mem_singleton.1 hr]; rfl, .inr ⟨n1, 0, some 1, [w], rfl, Nat.lt_succ_self _, hL2, by simp, rfl⟩⟩
      refine AOps.c rfl rfl rfl rfl rfl (by simp only [callOf_val, callW_fn, evS, cond_tt, cond_ff, absV, depthV, Nat.reduceEqDiff, Nat.reduceLT, ↓reduceIte, Option.map_some, Option.bind_some, List.toList_toArray]; rfl) rfl hadd2 ?_
      rintro r2 ⟨o2, f2, n2, l2⟩ ⟨hm2, hu2, hl2⟩
      have hl2 : l2 = h.next := hl2 h.next rfl (Nat.le_refl _) (by show h.next ≤ n1 + 1; omega)
      subst hl2
      have hn2 : n1 + 1 ≤ n2 := hu2.next
      have hov4 : Over h.next ⟨h.objs, h.fams, h.next, h.next⟩ ⟨o2, f2, n2, h.next⟩ := hov3.trans ⟨hu2.next, fun j hj => hu2.objs j (by show j < n1 + 1; omega) (by omega), fun j hj => hu2.fams j (by show j < n1 + 1; omega), fun _ => rfl⟩
      simp only at hm2
      have hb2 := addL_bnd (times := -1) (.inr rfl) hb1 paid.length paid rfl (ok_am e2)
      have hgo : ∀ k, getM 0 k (addL (-1) (addL 1 [] owed) paid) = sumX owed k - sumX paid k := fun k => by
        rw [addL_get, addL_get]; simp only [getM]; omega
      have hnd : nodupM (addL (-1) (addL 1 [] owed) paid) := addL_nodup _ _ _ (addL_nodup _ _ _ List.nodup_nil)
      have hlen : (addL (-1) (addL 1 [] owed) paid).length ≤ 600 := by
        have g1 := addL_len (-1) paid (addL 1 [] owed)
        have g2 := addL_len 1 owed []
        simp at g2; omega
      generalize hAll : addL (-1) (addL 1 [] owed) paid = al at hm2 hb2 hgo hnd hlen
      have hbe : ∀ e ∈ al, -1000000000000000 ≤ e.2 ∧ e.2 ≤ 1000000000000000 := fun e he => by
        have := hb2 e.1
        rw [getM_of_mem hnd (show (e.1, e.2) ∈ al from he)] at this
        omega
      refine AOps.nil ?_
      (repeat refine AWp.seq ?_); change AWp _ _ _ _ _; refine AWp.region ?_; (repeat (first | refine AOps.v rfl rfl rfl rfl rfl (by simp only [evS, cond_tt, cond_ff, absV, depthV, Nat.reduceEqDiff, Nat.reduceLT, ↓reduceIte, Option.map_some, Option.bind_some, List.toList_toArray, op_makeMap, H.lay]; rfl) ?_ | refine AOps.s rfl rfl rfl ?_ | refine AOps.u rfl rfl rfl rfl (by simp only [evS, cond_tt, cond_ff, absV, depthV, Nat.reduceEqDiff, Nat.reduceLT, ↓reduceIte, Option.map_some, Option.bind_some, List.toList_toArray, op_makeMap, H.lay]; rfl) ?_)); refine AOps.nil ?_
      have hA5 : MapAt Pr.av intAV (Tr.put o2 n2 (some (.map [] 0))) h.next al := by
        unfold MapAt; rw [put_other _ _ (by omega)]; exact hm2
      have rg := fun fm nx lw => range_map (h := ⟨Tr.put o2 n2 (some (.map [] 0)), fm, nx, lw⟩) (kv := Pr.av) (uv := intAV) Tryz.underlying122 hA5
      (repeat refine AWp.seq ?_); change AWp _ _ _ _ _; refine AWp.region ?_; (repeat (first | refine AOps.v rfl rfl rfl rfl rfl (by simp only [evS, cond_tt, cond_ff, absV, depthV, Nat.reduceEqDiff, Nat.reduceLT, ↓reduceIte, Option.map_some, Option.bind_some, List.toList_toArray, op_range, rg]; rfl) ?_ | refine AOps.s rfl rfl rfl ?_ | refine AOps.u rfl rfl rfl rfl (by simp only [evS, cond_tt, cond_ff, absV, depthV, Nat.reduceEqDiff, Nat.reduceLT, ↓reduceIte, Option.map_some, Option.bind_some, List.toList_toArray, op_range, rg]; rfl) ?_)); refine AOps.nil ?_
      have hov5 : Over h.next ⟨h.objs, h.fams, h.next, h.next⟩ ⟨Tr.put (Tr.put o2 n2 (some (.map [] 0))) (n2 + 1) (some (.miter (some h.next) al.length [] al.length)), f2, n2 + 1 + 1, h.next⟩ :=
        hov4.trans ⟨by show n2 ≤ n2 + 1 + 1; omega, fun j hj => by show (Tr.put (Tr.put o2 n2 _) (n2 + 1) _).get j = _; rw [put_other _ _ (by omega), put_other _ _ (by omega)], fun _ _ => rfl, fun _ => rfl⟩
      refine AWp.block (AWp.loop (fun k st => ∃ (seen : List Nat) (hk : H), k = al.length - seen.length ∧ seen.Nodup ∧ (∀ i ∈ seen, i < al.length) ∧
        Over h.next ⟨h.objs, h.fams, h.next, h.next⟩ hk ∧ MapAt Pr.av intAV hk.objs h.next al ∧ MapAt Pr.av intAV hk.objs n2 (netL (handed al seen)) ∧ IterAt hk.objs (n2 + 1) h.next al.length seen ∧ n2 + 2 ≤ hk.next ∧
        Fr st [(4, .slice none 0 0 (some 0)), (5, .int .i64 0), (7, .map (some h.next)), (8, .map (some n2)), (30, .ptr (some (n2 + 1, 0)))] 58 hk []) al.length ?_ ?_)
      · refine ⟨[], _, rfl, List.nodup_nil, (fun i hi => by cases hi), hov5, ?_, ?_, ?_, Nat.le_refl _, rfl, rfl, rfl, rfl, rfl, rfl, rfl, rfl, trivial⟩
        · unfold MapAt; show (Tr.put (Tr.put o2 n2 _) (n2 + 1) _).get h.next = _; rw [put_other _ _ (by omega)]; exact hA5
        · unfold MapAt; show (Tr.put (Tr.put o2 n2 _) (n2 + 1) _).get n2 = _; rw [put_other _ _ (by omega), put_same]; rfl
        · exact put_same _ _ _
      clear hov5 hA5 rg hm2 hu2 hadd2 hov4 hov3 hO2 hF2 hA2 hL2 hov2 hm1 hu1 hadd1 hov1 hO1 hF1 hA1 hL1 hc1 hc2
      rintro k st ⟨seen, ⟨ko, kf, kn, kl⟩, rfl, hsd, hlt, hov, hmA, hmN, hit, hkn, hF⟩
      obtain ⟨f, rfl⟩ := hF.open
      simp only [updL]
      have hlow : kl = h.next := hov.low (Nat.le_refl _)
      simp only at hmA hmN hit hkn
      subst hlow
      obtain ⟨outs, hno, hnx⟩ := next_map (h := ⟨ko, kf, kn, h.next⟩) hmA hit
      (repeat refine AWp.seq ?_)
      refine AWp.region ?_
      refine AOps.n rfl rfl rfl rfl rfl (by rw [op_next (ev_tmp (by omega))]; simp only [upd_eq, Nat.reduceEqDiff, ↓reduceIte]; rw [hno]; rfl) ?_
      intro x hx
      obtain ⟨y, hy, rfl⟩ := List.mem_map.1 hx
      rcases hnx y hy with ⟨rfl, hall⟩ | ⟨i, e, hie, hin, rfl⟩
      · simp only [orU_some]
        (repeat (first | refine AOps.v rfl rfl rfl rfl rfl (by simp only [evS, cond_tt, cond_ff, absV, depthV, Nat.reduceEqDiff, Nat.reduceLT, ↓reduceIte, Option.map_some, Option.bind_some, List.toList_toArray]; rfl) ?_ | refine AOps.s rfl rfl rfl ?_ | refine AOps.u rfl rfl rfl rfl (by simp only [evS, cond_tt, cond_ff, absV, depthV, Nat.reduceEqDiff, Nat.reduceLT, ↓reduceIte, Option.map_some, Option.bind_some, List.toList_toArray]; rfl) ?_))
        refine AOps.nil ?_
        (repeat refine AWp.seq ?_); change AWp _ _ _ _ _; refine AWp.no (by rfl) (by rfl) ?_
        refine AWp.exit ?_
        have hperm := handed_all hsd hlt hall
        have hndh : nodupM (handed al seen) := by unfold nodupM at hnd ⊢; exact (hperm.map _).nodup_iff.2 hnd
        have hgh : ∀ k, getM 0 k (handed al seen) = getM 0 k al := fun k => getM_perm hndh hnd hperm k
        have hlh : (netL (handed al seen)).length ≤ 1200 := by
          have g1 := netL_len (handed al seen)
          have g2 := hperm.length_eq
          omega
        (repeat refine AWp.seq ?_)
        refine AWp.region ?_
        (repeat (first | refine AOps.v rfl rfl rfl rfl rfl (by simp only [evS, cond_tt, cond_ff, absV, depthV, Nat.reduceEqDiff, Nat.reduceLT, ↓reduceIte, Option.map_some, Option.bind_some, List.toList_toArray]; rfl) ?_ | refine AOps.s rfl rfl rfl ?_ | refine AOps.u rfl rfl rfl rfl (by simp only [evS, cond_tt, cond_ff, absV, depthV, Nat.reduceEqDiff, Nat.reduceLT, ↓reduceIte, Option.map_some, Option.bind_some, List.toList_toArray]; rfl) ?_))
        refine AOps.c rfl rfl rfl rfl rfl (by simp only [callOf_val, callW_fn, evS, cond_tt, cond_ff, absV, depthV, Nat.reduceEqDiff, Nat.reduceLT, ↓reduceIte, Option.map_some, Option.bind_some, List.toList_toArray]; rfl) rfl (Tryz.transfers hsort (netL (handed al seen)) (by omega) n2 ⟨ko, kf, kn, h.next⟩ hmN (by show n2 < kn; omega)) ?_
        have hnetq : ∀ k, getM 0 k (netL (handed al seen)) = dueX owed paid k := fun k => by
          rw [netL_get _ hndh, hgh, hgh, hgo, hgo]; rfl
        have hnn := netL_nodup (handed al seen)
        intro r h3 hq
        rcases hq with ⟨hex, rfl, rfl⟩ | ⟨hall', ts, hp', hs', rfl, rfl⟩
        · (repeat (first | refine AOps.v rfl rfl rfl rfl rfl (by simp only [evS, cond_tt, cond_ff, absV, depthV, Nat.reduceEqDiff, Nat.reduceLT, ↓reduceIte, Option.map_some, Option.bind_some, List.toList_toArray]; rfl) ?_ | refine AOps.s rfl rfl rfl ?_ | refine AOps.u rfl rfl rfl rfl (by simp only [evS, cond_tt, cond_ff, absV, depthV, Nat.reduceEqDiff, Nat.reduceLT, ↓reduceIte, Option.map_some, Option.bind_some, List.toList_toArray]; rfl) ?_))
          refine AOps.nil (AWp.ret ?_)
          (try simp only [OutOf, Then, Round, NoGoto])
          exact leaves_plain (v := .tup [.slice none 0 0 (some 0), .int .i64 13]) (by rfl) (by rfl) (fun _ => rfl) (by rfl) (.inr ⟨hodd, _, hnn, hnetq, .inl ⟨hex, rfl, rfl⟩⟩)
        · by_cases hts : ts = []
          · subst hts
            simp only [backX, if_true]
            (repeat (first | refine AOps.v rfl rfl rfl rfl rfl (by simp only [evS, cond_tt, cond_ff, absV, depthV, Nat.reduceEqDiff, Nat.reduceLT, ↓reduceIte, Option.map_some, Option.bind_some, List.toList_toArray]; rfl) ?_ | refine AOps.s rfl rfl rfl ?_ | refine AOps.u rfl rfl rfl rfl (by simp only [evS, cond_tt, cond_ff, absV, depthV, Nat.reduceEqDiff, Nat.reduceLT, ↓reduceIte, Option.map_some, Option.bind_some, List.toList_toArray]; rfl) ?_))
            refine AOps.nil (AWp.ret ?_)
            (try simp only [OutOf, Then, Round, NoGoto])
            exact leaves_plain (v := .tup [.slice none 0 0 (some 0), .int .i64 0]) (by rfl) (by rfl) (fun _ => rfl) (by rfl) (.inr ⟨hodd, _, hnn, hnetq, .inr ⟨hall', [], hp', hs', by simp only [backX, if_true], by simp only [backX, if_true]⟩⟩)
          · simp only [backX, hts, if_false, layAll, H.lay]
            (repeat (first | refine AOps.v rfl rfl rfl rfl rfl (by simp only [evS, cond_tt, cond_ff, absV, depthV, Nat.reduceEqDiff, Nat.reduceLT, ↓reduceIte, Option.map_some, Option.bind_some, List.toList_toArray]; rfl) ?_ | refine AOps.s rfl rfl rfl ?_ | refine AOps.u rfl rfl rfl rfl (by simp only [evS, cond_tt, cond_ff, absV, depthV, Nat.reduceEqDiff, Nat.reduceLT, ↓reduceIte, Option.map_some, Option.bind_some, List.toList_toArray]; rfl) ?_))
            refine AOps.nil (AWp.ret ?_)
            (try simp only [OutOf, Then, Round, NoGoto])
            have hout : OutAt kn ⟨ko.put kn (some (.cells (ts.map Xf.cells).flatten kn)), kf.put kn (some (kn, kn)), kn + 1, h.next⟩ (.slice (some (kn, 0)) (ts.map Xf.cells).length 3 none) 3 (ts.map Xf.cells) :=
              ⟨by intro r hr; obtain ⟨t, _, rfl⟩ := List.mem_map.1 hr; rfl, .inr ⟨kn, kn, kn, kn, by simpa using hts, rfl, put_same _ _ _, put_same _ _ _, .inl rfl, Nat.le_refl _, Nat.le_refl _, Nat.le_refl _, Nat.le_refl _, Nat.lt_succ_self _, Nat.lt_succ_self _, Nat.lt_succ_self _, Nat.lt_succ_self _⟩⟩
            obtain ⟨fam, hcan⟩ := canon_out hout (show h.next ≤ kn by omega) (by intro r hr; obtain ⟨t, _, rfl⟩ := List.mem_map.1 hr; exact plain_cells t) (by simpa using hts) [] rfl 1
            rw [List.length_map] at hcan
            refine ⟨rfl, _, rfl, .tup [.slice (some (kn, 0)) ts.length 3 none, .int .i64 0], by rfl, .inr ⟨_, _, _, canon_tup2 hcan (bare_int _ _), rfl, ?_⟩⟩
            refine .inr ⟨hodd, _, hnn, hnetq, .inr ⟨hall', ts, hp', hs', ?_, ?_⟩⟩
            · simp only [backX, hts, if_false]
            · simp only [backX, hts, if_false]
      · simp only [orU_some, H.set]
        (repeat (first | refine AOps.v rfl rfl rfl rfl rfl (by simp only [evS, cond_tt, cond_ff, absV, depthV, Nat.reduceEqDiff, Nat.reduceLT, ↓reduceIte, Option.map_some, Option.bind_some, List.toList_toArray]; rfl) ?_ | refine AOps.s rfl rfl rfl ?_ | refine AOps.u rfl rfl rfl rfl (by simp only [evS, cond_tt, cond_ff, absV, depthV, Nat.reduceEqDiff, Nat.reduceLT, ↓reduceIte, Option.map_some, Option.bind_some, List.toList_toArray]; rfl) ?_))
        refine AOps.nil ?_
        (repeat refine AWp.seq ?_); change AWp _ _ _ _ _; refine AWp.yes (by rfl) (by rfl) (AWp.skip ?_)
        (repeat refine AWp.seq ?_)
        refine AWp.block ?_
        rw [minN_left (show h.next ≤ n2 + 1 by omega)]
        have hi1 : IterAt (Tr.put ko (n2 + 1) (some (.miter (some h.next) al.length (seen ++ [i]) al.length))) (n2 + 1) h.next al.length (seen ++ [i]) := put_same _ _ _
        have hO1o : ∀ j, j ≠ n2 + 1 → (Tr.put ko (n2 + 1) (some (.miter (some h.next) al.length (seen ++ [i]) al.length))).get j = ko.get j := fun j hj => put_other _ _ hj
        generalize Tr.put ko (n2 + 1) (some (.miter (some h.next) al.length (seen ++ [i]) al.length)) = O1 at hi1 hO1o ⊢
        have hA1 : MapAt Pr.av intAV O1 h.next al := (hO1o _ (by omega)).trans hmA
        have hN1 : MapAt Pr.av intAV O1 n2 (netL (handed al seen)) := (hO1o _ (by omega)).trans hmN
        have hen := fun fm nx lw => entry_map (h := ⟨O1, fm, nx, lw⟩) hA1 hi1 hie
        (repeat refine AWp.seq ?_)
        refine AWp.region ?_
        (repeat (first | refine AOps.v rfl rfl rfl rfl rfl (by simp only [evS, cond_tt, cond_ff, absV, depthV, Nat.reduceEqDiff, Nat.reduceLT, ↓reduceIte, Option.map_some, Option.bind_some, List.toList_toArray, op_entry, hen, Tryz.zero125, H.lay]; rfl) ?_ | refine AOps.s rfl rfl rfl ?_ | refine AOps.u rfl rfl rfl rfl (by simp only [evS, cond_tt, cond_ff, absV, depthV, Nat.reduceEqDiff, Nat.reduceLT, ↓reduceIte, Option.map_some, Option.bind_some, List.toList_toArray, op_entry, hen, Tryz.zero125, H.lay]; rfl) ?_))
        refine AOps.st rfl rfl rfl (by simp only [evS, cond_tt, cond_ff, absV, depthV, Nat.reduceEqDiff, Nat.reduceLT, ↓reduceIte, Option.map_some, Option.bind_some, List.toList_toArray]; rfl) (by simp only [evS, cond_tt, cond_ff, absV, depthV, Nat.reduceEqDiff, Nat.reduceLT, ↓reduceIte, Option.map_some, Option.bind_some, List.toList_toArray]; rfl) (by exact Tryz.size125) (by simp only [H.lay, put_get]; rfl) (by simp only [H.lay, put_get]; rfl) (by rfl) (by rfl) (cs' := [.str e.1.1, .str e.1.2]) (by rfl) (by exact minN_left (show h.next ≤ kn by omega)) ?_
        (repeat (first | refine AOps.v rfl rfl rfl rfl rfl (by simp only [evS, cond_tt, cond_ff, absV, depthV, Nat.reduceEqDiff, Nat.reduceLT, ↓reduceIte, Option.map_some, Option.bind_some, List.toList_toArray]; rfl) ?_ | refine AOps.s rfl rfl rfl ?_ | refine AOps.u rfl rfl rfl rfl (by simp only [evS, cond_tt, cond_ff, absV, depthV, Nat.reduceEqDiff, Nat.reduceLT, ↓reduceIte, Option.map_some, Option.bind_some, List.toList_toArray]; rfl) ?_))
        refine AOps.nil ?_
        generalize hO2 : Tr.put (Tr.put O1 kn (some (.cells [.str [], .str []] kn))) kn (some (.cells [.str e.1.1, .str e.1.2] kn)) = O2
        have hO2o : ∀ j, j ≠ kn → O2.get j = O1.get j := fun j hj => by rw [← hO2, put_other _ _ hj, put_other _ _ hj]
        have hrow : rowO O2 kn = some [.str e.1.1, .str e.1.2] := by rw [← hO2, rowO_put, if_pos rfl]; rfl
        generalize hF2 : Tr.put kf kn (some (kn, kn)) = F2
        have hF2o : ∀ j, j ≠ kn → F2.get j = kf.get j := fun j hj => by rw [← hF2]; exact put_other _ _ hj
        have hN2 : MapAt Pr.av intAV O2 n2 (netL (handed al seen)) := (hO2o _ (by omega)).trans hN1
        have hch : chunkL [AV.str e.1.1, .str e.1.2] 0 2 = some [.str e.1.1, .str e.1.2] := rfl
        have hhl : (handed al seen).length ≤ 600 := by
          have h2 : (handed al seen).length ≤ seen.length := by unfold handed; exact List.length_filterMap_le _ _
          have h3 : seen.length ≤ al.length := by
            have := hsd.length_le_of_subset (l₂ := List.range al.length) (fun j hj => List.mem_range.2 (hlt j hj))
            rw [List.length_range] at this; exact this
          omega
        have hbn := netL_bnd (B := 1000000000000000) (by omega) (handed al seen) (fun e he => by
          unfold handed at he
          obtain ⟨j, _, hj⟩ := List.mem_filterMap.1 he
          exact hbe e (List.mem_of_getElem? hj))
        have hbn' : ∀ k, -1200000000000000000 ≤ getM 0 k (netL (handed al seen)) ∧ getM 0 k (netL (handed al seen)) ≤ 1200000000000000000 := fun k => by
          have := hbn k
          have : 2 * ((handed al seen).length : Int) * 1000000000000000 ≤ 1200000000000000000 := by omega
          omega
        have hee := hbe e (List.mem_of_getElem? hie)
        generalize hcur : netL (handed al seen) = cur at hN2 hbn'
        obtain ⟨⟨e1', e2'⟩, en⟩ := e
        simp only at hrow hch hee
        have lk : ∀ fm nx lw, lookupA Tryz.prog ⟨O2, fm, nx, lw⟩ 122 (.map (some n2)) (.agg [.str e1', .str e2']) false = some (.int .i64 (getM 0 (e1', e2') cur)) := fun fm nx lw =>
          look_map (h := ⟨O2, fm, nx, lw⟩) (uv := intAV) (u0 := 0) Tryz.underlying122 Tryz.keysP Tryz.zero3 hN2 (e1', e2') false
        have me : ∀ fm nx lw, mapEntryA Tryz.prog ⟨O2, fm, nx, lw⟩ 122 (.map (some n2)) (.agg [.str e1', .str e2']) = some (.tup [.int .i64 (getM 0 (e1', e2') cur), .int .i64 (plcM (e1', e2') cur : Int)], ⟨O2.put n2 (some (.map (encE Pr.av intAV 0 (touchM 0 (e1', e2') cur)) (touchM 0 (e1', e2') cur).length)), fm, nx, minN lw n2⟩) := fun fm nx lw =>
          mapEntry_map (h := ⟨O2, fm, nx, lw⟩) (uv := intAV) (u0 := 0) Tryz.underlying122 Tryz.keysP Tryz.zero3 hN2 (e1', e2')
        generalize hO3 : Tr.put O2 n2 (some (.map (encE Pr.av intAV 0 (touchM 0 (e1', e2') cur)) (touchM 0 (e1', e2') cur).length)) = O3 at me
        have hN3 : MapAt Pr.av intAV O3 n2 (touchM 0 (e1', e2') cur) := by rw [← hO3]; exact mapAt_put _
        have hrow3 : rowO O3 kn = some [.str e1', .str e2'] := by rw [← hO3, rowO_put, if_neg (by omega)]; exact hrow
        have lk3 : ∀ fm nx lw, lookupA Tryz.prog ⟨O3, fm, nx, lw⟩ 122 (.map (some n2)) (.agg [.str e1', .str e2']) false = some (.int .i64 (getM 0 (e1', e2') cur)) := fun fm nx lw => by
          have := look_map (h := ⟨O3, fm, nx, lw⟩) (uv := intAV) (u0 := 0) Tryz.underlying122 Tryz.keysP Tryz.zero3 hN3 (e1', e2') false
          rw [getM_touch] at this; exact this
        have es : ∀ fm nx lw (v : Int), entryStoreA ⟨O3, fm, nx, lw⟩ (.map (some n2)) (.int .i64 (plcM (e1', e2') cur : Int)) (.int .i64 v) = some ⟨O3.put n2 (some (.map (encE Pr.av intAV 0 (putM (e1', e2') v cur)) (putM (e1', e2') v cur).length)), fm, nx, minN lw n2⟩ := fun fm nx lw v =>
          entryStore_map (h' := ⟨O3, fm, nx, lw⟩) (uv := intAV) hN3 v
        have hb1 := hbn' (e1', e2')
        have b2 : -9223372036854775808 ≤ getM 0 (e1', e2') cur + en ∧ getM 0 (e1', e2') cur + en ≤ 9223372036854775807 := by omega
        simp only [intAV, Pr.av]
        (repeat refine AWp.seq ?_)
        refine AWp.draws (cv := cv0) cv0_ok rfl (L := 8) rfl (ms := [0, 0, 3, 0, 15, 11, 43, 127]) (by kernel_rfl) (by kernel_rfl) ?_
        (repeat (first | refine DRun.r rfl rfl rfl rfl rfl rfl (by simp only [evS, cond_tt, cond_ff, absV, depthV, Nat.reduceEqDiff, Nat.reduceLT, ↓reduceIte, Option.map_some, Option.bind_some, List.toList_toArray, addX_nil, updo_some, updo_none, orU_some, List.filter_nil, load_agg Tryz.agg60 Tryz.size60, load_agg Tryz.agg125 Tryz.size125, load_one Tryz.agg9, load_one Tryz.agg3, load_one Tryz.agg56, Tryz.fa60_0, Tryz.fa60_1, Tryz.fa60_2, Tryz.fa125_0, Tryz.fa125_1, len_slice Tryz.underlying56, H.lay, rowO_put, rowA_cells, Nat.zero_add, Nat.add_zero, ↓reduceIte, op_lookup, hrow, hch, lk, bin_add b2]; rfl) ?_ | refine DRun.s rfl rfl rfl ?_))
        refine DRun.e rfl rfl rfl rfl rfl rfl (by simp only [evS, cond_tt, cond_ff, absV, depthV, Nat.reduceEqDiff, Nat.reduceLT, ↓reduceIte, Option.map_some, Option.bind_some, List.toList_toArray, addX_nil, updo_some, updo_none, orU_some, List.filter_nil, op_mapEntry, me]; rfl) ?_
        (repeat (first | refine DRun.r rfl rfl rfl rfl rfl rfl (by simp only [evS, cond_tt, cond_ff, absV, depthV, Nat.reduceEqDiff, Nat.reduceLT, ↓reduceIte, Option.map_some, Option.bind_some, List.toList_toArray, addX_nil, updo_some, updo_none, orU_some, List.filter_nil, load_agg Tryz.agg60 Tryz.size60, load_agg Tryz.agg125 Tryz.size125, load_one Tryz.agg9, load_one Tryz.agg3, load_one Tryz.agg56, Tryz.fa60_0, Tryz.fa60_1, Tryz.fa60_2, Tryz.fa125_0, Tryz.fa125_1, len_slice Tryz.underlying56, H.lay, rowO_put, rowA_cells, Nat.zero_add, Nat.add_zero, ↓reduceIte]; rfl) ?_ | refine DRun.s rfl rfl rfl ?_))
        refine DRun.e rfl rfl rfl rfl rfl rfl (by simp only [evS, cond_tt, cond_ff, absV, depthV, Nat.reduceEqDiff, Nat.reduceLT, ↓reduceIte, Option.map_some, Option.bind_some, List.toList_toArray, addX_nil, updo_some, updo_none, orU_some, List.filter_nil, op_entryStore, es]; rfl) ?_
        refine DRun.nil ⟨?_, ?_⟩
        · (intro y hy; simp only [List.nil_append, List.cons_append, List.mem_cons, List.not_mem_nil, or_false] at hy; rcases hy with rfl | rfl | rfl | rfl | rfl | rfl <;> refine ⟨by first | exact eqTop_str _ _ | exact eqTop_int _ _ _ | exact eqTop_bool _ _ | exact eqTop_ptr _ _ _ | exact eqTop_map _ _ | exact eqTop_slice _ _ _ _ _ _ | (simp only [eqTop_agg, eqTop_tup, eqTop, all2, eqL_eq, eqI_eq, kEq, decide_true, Bool.and_self, Bool.and_true]; done), ?_⟩ <;> (simp only [phOk]; refine ⟨?_, ?_, ?_, trivial⟩) <;> first | exact trivial | exact Or.inl rfl | exact Or.inr ⟨_, by simp only [evS, cond_tt, cond_ff, absV, depthV, Nat.reduceEqDiff, Nat.reduceLT, ↓reduceIte, Option.map_some, Option.bind_some, List.toList_toArray, addX_nil, updo_some, updo_none, orU_some, List.filter_nil, load_agg Tryz.agg60 Tryz.size60, load_agg Tryz.agg125 Tryz.size125, load_one Tryz.agg9, load_one Tryz.agg3, load_one Tryz.agg56, Tryz.fa60_0, Tryz.fa60_1, Tryz.fa60_2, Tryz.fa125_0, Tryz.fa125_1, len_slice Tryz.underlying56, H.lay, rowO_put, rowA_cells, Nat.zero_add, Nat.add_zero, ↓reduceIte, op_lookup, hrow, hrow3, hch, lk, lk3, bin_add b2]; rfl⟩)
        simp only [List.filter_nil, addX_nil, updo_some, updo_none, orU_some]
        rw [minN_left (show h.next ≤ n2 by omega), minN_left (show h.next ≤ n2 by omega)]
        generalize hc1 : putM (e1', e2') (getM 0 (e1', e2') cur + en) cur = cur1
        have hO4o : ∀ j, j ≠ n2 → (Tr.put O3 n2 (some (.map (encE Pr.av intAV 0 cur1) cur1.length))).get j = O2.get j := fun j hj => by rw [put_other _ _ hj, ← hO3, put_other _ _ hj]
        have hN4 : MapAt Pr.av intAV (Tr.put O3 n2 (some (.map (encE Pr.av intAV 0 cur1) cur1.length))) n2 cur1 := mapAt_put _
        have hrow4 : rowO (Tr.put O3 n2 (some (.map (encE Pr.av intAV 0 cur1) cur1.length))) kn = some [.str e1', .str e2'] := by rw [rowO_put, if_neg (by omega)]; exact hrow3
        generalize Tr.put O3 n2 (some (.map (encE Pr.av intAV 0 cur1) cur1.length)) = O4 at hO4o hN4 hrow4 ⊢
        have hbn1 : ∀ k, -1300000000000000000 ≤ getM 0 k cur1 ∧ getM 0 k cur1 ≤ 1300000000000000000 := fun k => by
          rw [← hc1, getM_put]
          have := hbn' k
          split <;> omega
        have lk4 : ∀ fm nx lw, lookupA Tryz.prog ⟨O4, fm, nx, lw⟩ 122 (.map (some n2)) (Pr.av (e2', e1')) false = some (.int .i64 (getM 0 (e2', e1') cur1)) := fun fm nx lw =>
          look_map (h := ⟨O4, fm, nx, lw⟩) (uv := intAV) (u0 := 0) Tryz.underlying122 Tryz.keysP Tryz.zero3 hN4 (e2', e1') false
        have me4 : ∀ fm nx lw, mapEntryA Tryz.prog ⟨O4, fm, nx, lw⟩ 122 (.map (some n2)) (Pr.av (e2', e1')) = some (.tup [.int .i64 (getM 0 (e2', e1') cur1), .int .i64 (plcM (e2', e1') cur1 : Int)], ⟨O4.put n2 (some (.map (encE Pr.av intAV 0 (touchM 0 (e2', e1') cur1)) (touchM 0 (e2', e1') cur1).length)), fm, nx, minN lw n2⟩) := fun fm nx lw =>
          mapEntry_map (h := ⟨O4, fm, nx, lw⟩) (uv := intAV) (u0 := 0) Tryz.underlying122 Tryz.keysP Tryz.zero3 hN4 (e2', e1')
        generalize hO5 : Tr.put O4 n2 (some (.map (encE Pr.av intAV 0 (touchM 0 (e2', e1') cur1)) (touchM 0 (e2', e1') cur1).length)) = O5 at me4
        have hN5 : MapAt Pr.av intAV O5 n2 (touchM 0 (e2', e1') cur1) := by rw [← hO5]; exact mapAt_put _
        have hrow5 : rowO O5 kn = some [.str e1', .str e2'] := by rw [← hO5, rowO_put, if_neg (by omega)]; exact hrow4
        have lk5 : ∀ fm nx lw, lookupA Tryz.prog ⟨O5, fm, nx, lw⟩ 122 (.map (some n2)) (Pr.av (e2', e1')) false = some (.int .i64 (getM 0 (e2', e1') cur1)) := fun fm nx lw => by
          have := look_map (h := ⟨O5, fm, nx, lw⟩) (uv := intAV) (u0 := 0) Tryz.underlying122 Tryz.keysP Tryz.zero3 hN5 (e2', e1') false
          rw [getM_touch] at this; exact this
        have es5 : ∀ fm nx lw (v : Int), entryStoreA ⟨O5, fm, nx, lw⟩ (.map (some n2)) (.int .i64 (plcM (e2', e1') cur1 : Int)) (.int .i64 v) = some ⟨O5.put n2 (some (.map (encE Pr.av intAV 0 (putM (e2', e1') v cur1)) (putM (e2', e1') v cur1).length)), fm, nx, minN lw n2⟩ := fun fm nx lw v =>
          entryStore_map (h' := ⟨O5, fm, nx, lw⟩) (uv := intAV) hN5 v
        have hb4 := hbn1 (e2', e1')
        have b4 : -9223372036854775808 ≤ getM 0 (e2', e1') cur1 - en ∧ getM 0 (e2', e1') cur1 - en ≤ 9223372036854775807 := by omega
        (repeat refine AWp.seq ?_)
        refine AWp.draws (cv := cv0) cv0_ok rfl (L := 12) rfl (ms := [0, 0, 2, 0, 8, 30, 63, 0, 255, 191, 703, 2047]) (by kernel_rfl) (by kernel_rfl) ?_
        (repeat (first | refine DRun.r rfl rfl rfl rfl rfl rfl (by simp only [evS, cond_tt, cond_ff, absV, depthV, Nat.reduceEqDiff, Nat.reduceLT, ↓reduceIte, Option.map_some, Option.bind_some, List.toList_toArray, addX_nil, updo_some, updo_none, orU_some, List.filter_nil, load_agg Tryz.agg60 Tryz.size60, load_agg Tryz.agg125 Tryz.size125, load_one Tryz.agg9, load_one Tryz.agg3, load_one Tryz.agg56, Tryz.fa60_0, Tryz.fa60_1, Tryz.fa60_2, Tryz.fa125_0, Tryz.fa125_1, len_slice Tryz.underlying56, H.lay, rowO_put, rowA_cells, Nat.zero_add, Nat.add_zero, ↓reduceIte, op_lookup, hrow4, lk4, bin_sub b4, partsA_cons, partsA_nil, build125]; rfl) ?_ | refine DRun.s rfl rfl rfl ?_))
        refine DRun.e rfl rfl rfl rfl rfl rfl (by simp only [evS, cond_tt, cond_ff, absV, depthV, Nat.reduceEqDiff, Nat.reduceLT, ↓reduceIte, Option.map_some, Option.bind_some, List.toList_toArray, addX_nil, updo_some, updo_none, orU_some, List.filter_nil, op_mapEntry, me4]; rfl) ?_
        (repeat (first | refine DRun.r rfl rfl rfl rfl rfl rfl (by simp only [evS, cond_tt, cond_ff, absV, depthV, Nat.reduceEqDiff, Nat.reduceLT, ↓reduceIte, Option.map_some, Option.bind_some, List.toList_toArray, addX_nil, updo_some, updo_none, orU_some, List.filter_nil, load_agg Tryz.agg60 Tryz.size60, load_agg Tryz.agg125 Tryz.size125, load_one Tryz.agg9, load_one Tryz.agg3, load_one Tryz.agg56, Tryz.fa60_0, Tryz.fa60_1, Tryz.fa60_2, Tryz.fa125_0, Tryz.fa125_1, len_slice Tryz.underlying56, H.lay, rowO_put, rowA_cells, Nat.zero_add, Nat.add_zero, ↓reduceIte]; rfl) ?_ | refine DRun.s rfl rfl rfl ?_))
        refine DRun.e rfl rfl rfl rfl rfl rfl (by simp only [evS, cond_tt, cond_ff, absV, depthV, Nat.reduceEqDiff, Nat.reduceLT, ↓reduceIte, Option.map_some, Option.bind_some, List.toList_toArray, addX_nil, updo_some, updo_none, orU_some, List.filter_nil, op_entryStore, es5]; rfl) ?_
        refine DRun.nil ⟨?_, ?_⟩
        · (intro y hy; simp only [List.nil_append, List.cons_append, List.mem_cons, List.not_mem_nil, or_false] at hy; rcases hy with rfl | rfl | rfl | rfl | rfl | rfl | rfl | rfl | rfl | rfl <;> refine ⟨by first | exact eqTop_str _ _ | exact eqTop_int _ _ _ | exact eqTop_bool _ _ | exact eqTop_ptr _ _ _ | exact eqTop_map _ _ | exact eqTop_slice _ _ _ _ _ _ | exact eqTop_pr _ _ | (simp only [eqTop_agg, eqTop_tup, eqTop, all2, eqL_eq, eqI_eq, kEq, decide_true, Bool.and_self, Bool.and_true]; done), ?_⟩ <;> (simp only [phOk]; refine ⟨?_, ?_, ?_, trivial⟩) <;> first | exact trivial | exact Or.inl rfl | exact Or.inr ⟨_, by simp only [evS, cond_tt, cond_ff, absV, depthV, Nat.reduceEqDiff, Nat.reduceLT, ↓reduceIte, Option.map_some, Option.bind_some, List.toList_toArray, addX_nil, updo_some, updo_none, orU_some, List.filter_nil, load_agg Tryz.agg60 Tryz.size60, load_agg Tryz.agg125 Tryz.size125, load_one Tryz.agg9, load_one Tryz.agg3, load_one Tryz.agg56, Tryz.fa60_0, Tryz.fa60_1, Tryz.fa60_2, Tryz.fa125_0, Tryz.fa125_1, len_slice Tryz.underlying56, H.lay, rowO_put, rowA_cells, Nat.zero_add, Nat.add_zero, ↓reduceIte, op_lookup, hrow4, hrow5, lk4, lk5, bin_sub b4, partsA_cons, partsA_nil, build125]; rfl⟩)
        simp only [List.filter_nil, addX_nil, updo_some, updo_none, orU_some]
        rw [minN_left (show h.next ≤ n2 by omega), minN_left (show h.next ≤ n2 by omega)]
        have hseen : (seen ++ [i]).length ≤ al.length ∧ (seen ++ [i]).Nodup ∧ ∀ j ∈ seen ++ [i], j < al.length := by
          have hnd' : (seen ++ [i]).Nodup := by
            rw [List.nodup_append]; exact ⟨hsd, by simp, fun a ha b hb => by simp at hb; subst hb; intro e; subst e; exact hin ha⟩
          have hl' : ∀ j ∈ seen ++ [i], j < al.length := fun j hj => by
            rcases List.mem_append.1 hj with hj | hj
            · exact hlt j hj
            · rw [List.mem_singleton.1 hj]; exact idx_lt hie
          have := hnd'.length_le_of_subset (l₂ := List.range al.length) (fun j hj => List.mem_range.2 (hl' j hj))
          rw [List.length_range] at this
          exact ⟨this, hnd', hl'⟩
        obtain ⟨s1, s2, s3⟩ := hseen
        rw [List.length_append, List.length_singleton] at s1
        refine ⟨al.length - (seen.length + 1), by omega, seen ++ [i], _, by simp, s2, s3, ?_, ?_, ?_, ?_, ?_, rfl, rfl, rfl, rfl, rfl, rfl, rfl, rfl, trivial⟩
        · refine ⟨by show h.next ≤ kn + 1 + 8 + 12; omega, fun j hj => ?_, fun j hj => ?_, fun _ => rfl⟩
          · show (Tr.put O5 n2 _).get j = _
            rw [put_other _ _ (by omega), ← hO5, put_other _ _ (by omega), hO4o j (by omega), hO2o j (by omega), hO1o j (by omega)]
            exact hov.objs j hj
          · exact (hF2o j (by omega)).trans (hov.fams j hj)
        · unfold MapAt
          show (Tr.put O5 n2 _).get h.next = _
          rw [put_other _ _ (by omega), ← hO5, put_other _ _ (by omega), hO4o _ (by omega), hO2o _ (by omega)]
          exact hA1
        · rw [handed_snoc al seen hie, netL_snoc, hcur]
          unfold netE
          simp only [revP, hc1]
          exact mapAt_put _
        · unfold IterAt
          show (Tr.put O5 n2 _).get (n2 + 1) = _
          rw [put_other _ _ (by omega), ← hO5, put_other _ _ (by omega), hO4o _ (by omega), hO2o _ (by omega)]
          exact hi1
        · show n2 + 2 ≤ kn + 1 + 8 + 12; omega
    · (repeat (first | refine AOps.v rfl rfl rfl rfl rfl (by simp only [evS, cond_tt, cond_ff, absV, depthV, Nat.reduceEqDiff, Nat.reduceLT, ↓reduceIte, Option.map_some, Option.bind_some, List.toList_toArray]; rfl) ?_ | refine AOps.s rfl rfl rfl ?_ | refine AOps.u rfl rfl rfl rfl (by simp only [evS, cond_tt, cond_ff, absV, depthV, Nat.reduceEqDiff, Nat.reduceLT, ↓reduceIte, Option.map_some, Option.bind_some, List.toList_toArray]; rfl) ?_))
      refine AOps.nil ?_
      (repeat refine AWp.seq ?_); change AWp _ _ _ _ _; refine AWp.yes (by rfl) (by rfl) ?_
      (repeat refine AWp.seq ?_); change AWp _ _ _ _ _; refine AWp.region ?_; (repeat (first | refine AOps.v rfl rfl rfl rfl rfl (by simp only [evS, cond_tt, cond_ff, absV, depthV, Nat.reduceEqDiff, Nat.reduceLT, ↓reduceIte, Option.map_some, Option.bind_some, List.toList_toArray]; rfl) ?_ | refine AOps.s rfl rfl rfl ?_ | refine AOps.u rfl rfl rfl rfl (by simp only [evS, cond_tt, cond_ff, absV, depthV, Nat.reduceEqDiff, Nat.reduceLT, ↓reduceIte, Option.map_some, Option.bind_some, List.toList_toArray]; rfl) ?_)); refine AOps.nil ?_
      refine AWp.ret ?_
      (try simp only [OutOf, Then, Round, NoGoto])
      exact leaves_plain (v := .tup [.slice none 0 0 (some 0), .int .i64 1]) (by rfl) (by rfl) (fun _ => rfl) (by rfl) (.inl ⟨by unfold oddX; rw [e1, e2]; rfl, rfl, rfl⟩)
  · (repeat (first | refine AOps.v rfl rfl rfl rfl rfl (by simp only [evS, cond_tt, cond_ff, absV, depthV, Nat.reduceEqDiff, Nat.reduceLT, ↓reduceIte, Option.map_some, Option.bind_some, List.toList_toArray]; rfl) ?_ | refine AOps.s rfl rfl rfl ?_ | refine AOps.u rfl rfl rfl rfl (by simp only [evS, cond_tt, cond_ff, absV, depthV, Nat.reduceEqDiff, Nat.reduceLT, ↓reduceIte, Option.map_some, Option.bind_some, List.toList_toArray]; rfl) ?_))
    refine AOps.nil ?_
    (repeat refine AWp.seq ?_); change AWp _ _ _ _ _; refine AWp.yes (by rfl) (by rfl) ?_
    (repeat refine AWp.seq ?_); change AWp _ _ _ _ _; refine AWp.region ?_; (repeat (first | refine AOps.v rfl rfl rfl rfl rfl (by simp only [evS, cond_tt, cond_ff, absV, depthV, Nat.reduceEqDiff, Nat.reduceLT, ↓reduceIte, Option.map_some, Option.bind_some, List.toList_toArray]; rfl) ?_ | refine AOps.s rfl rfl rfl ?_ | refine AOps.u rfl rfl rfl rfl (by simp only [evS, cond_tt, cond_ff, absV, depthV, Nat.reduceEqDiff, Nat.reduceLT, ↓reduceIte, Option.map_some, Option.bind_some, List.toList_toArray]; rfl) ?_)); refine AOps.nil ?_
    refine AWp.ret ?_
    (try simp only [OutOf, Then, Round, NoGoto])
    exact leaves_plain (v := .tup [.slice none 0 0 (some 0), .int .i64 1]) (by rfl) (by rfl) (fun _ => rfl) (by rfl) (.inl ⟨by unfold oddX; rw [e1]; rfl, rfl, rfl⟩)

end Go.Proofs

/- Seat r1: lists of balances: equality. No conditions beyond those that each theorem states. -/
namespace Go.Proofs
open Go.Ev
set_option maxRecDepth 100000

structure Sh where
  pt : List Nat
  am : Int
  deriving DecidableEq

def Sh.cells (t : Sh) : List AV := [.str t.pt, .int .i64 t.am]
abbrev RdZ (h : H) (v : AV) (ts : List Sh) : Prop := RdS h v 2 (ts.map Sh.cells)

theorem rowsS_get (ts : List Sh) {i : Nat} {t : Sh} (h : ts[i]? = some t) : (ts.map Sh.cells)[i]? = some t.cells := by rw [List.getElem?_map, h]; rfl

theorem eqTop_sh (n : Nat) (t : Sh) : eqTop (n + 2) (.agg t.cells) (.agg t.cells) = true := by
  unfold Sh.cells
  simp only [eqTop, all2, eqL_eq, eqI_eq, decide_true, Bool.and_self, Bool.and_true]
  rfl

theorem Tryz.guard36 : Tryz.prog.eqGuardType Tryz.prog.depth 36 = false := by kernel_rfl
theorem Tryz.stood36 : Tryz.prog.stoodInHeld 36 = false := by kernel_rfl

theorem neq36 (s t : Sh) (t0 : TypeId) (h : t0 = 36) : binA Tryz.prog .neq t0 (.agg s.cells) (.agg t.cells) = some (.bool (!decide (s = t))) := by
  subst h
  obtain ⟨a1, a3⟩ := s
  obtain ⟨b1, b3⟩ := t
  simp only [binA, Tryz.guard36, cond_ff, Sh.cells]
  simp only [eqA, Tryz.underlying36, Tryz.stood36, cond_ff, eqFields, partA, Tryz.agg9, Tryz.agg3, Tryz.underlying9, Tryz.underlying3, List.getElem?_cons_zero, List.getElem?_cons_succ, eqL_eq, eqI_eq, kEq]
  by_cases h1 : a1 = b1 <;> by_cases h3 : a3 = b3 <;> simp [h1, h3]

set_option maxHeartbeats 1000000 in
theorem Tryz.sameS (a b : List Sh) (hlen : a.length ≤ 1000) (v w : AV) (h : H) (hv : RdZ h v a) (hw : RdZ h w b) : ACalls Tryz.prog (.func 22) [v, w] h (fun r h' => r = .bool (decide (a = b)) ∧ h' = h) := by
  refine ACalls.body (n := 26) Tryz.nogo Tryz.func22 rfl rfl ?_
  rw [argF2]
  obtain ⟨o, e, c, rfl⟩ := hv.len
  obtain ⟨o', e', c', rfl⟩ := hw.len
  rw [List.length_map] at hv hw ⊢
  rw [List.length_map]
  (repeat refine AWp.seq ?_); change AWp _ _ _ _ _; refine AWp.region ?_; (repeat (first | refine AOps.v rfl rfl rfl rfl rfl (by simp only [evS, cond_tt, cond_ff, absV, depthV, Nat.reduceEqDiff, Nat.reduceLT, ↓reduceIte, Option.map_some, Option.bind_some, List.toList_toArray]; rfl) ?_ | refine AOps.s rfl rfl rfl ?_ | refine AOps.u rfl rfl rfl rfl (by simp only [evS, cond_tt, cond_ff, absV, depthV, Nat.reduceEqDiff, Nat.reduceLT, ↓reduceIte, Option.map_some, Option.bind_some, List.toList_toArray]; rfl) ?_)); refine AOps.nil ?_
  by_cases hl : a.length = b.length
  · have c0 : decide ((a.length : Int) = (b.length : Int)) = true := by rw [decide_eq_true_eq]; omega
    (repeat refine AWp.seq ?_); change AWp _ _ _ _ _; refine AWp.region ?_; (repeat (first | refine AOps.v rfl rfl rfl rfl rfl (by simp only [evS, cond_tt, cond_ff, absV, depthV, Nat.reduceEqDiff, Nat.reduceLT, ↓reduceIte, Option.map_some, Option.bind_some, List.toList_toArray, load_agg Tryz.agg60 Tryz.size60, load_agg Tryz.agg36 Tryz.size36, load_one Tryz.agg9, load_one Tryz.agg3, load_one Tryz.agg31, load_one Tryz.agg56, Tryz.fa60_0, Tryz.fa60_1, Tryz.fa60_2, Tryz.fa36_0, Tryz.fa36_1, len_slice Tryz.underlying31, len_slice Tryz.underlying56, H.lay, rowO_put, rowA_cells, Nat.zero_add, Nat.add_zero, ↓reduceIte, c0]; rfl) ?_ | refine AOps.s rfl rfl rfl ?_ | refine AOps.u rfl rfl rfl rfl (by simp only [evS, cond_tt, cond_ff, absV, depthV, Nat.reduceEqDiff, Nat.reduceLT, ↓reduceIte, Option.map_some, Option.bind_some, List.toList_toArray, load_agg Tryz.agg60 Tryz.size60, load_agg Tryz.agg36 Tryz.size36, load_one Tryz.agg9, load_one Tryz.agg3, load_one Tryz.agg31, load_one Tryz.agg56, Tryz.fa60_0, Tryz.fa60_1, Tryz.fa60_2, Tryz.fa36_0, Tryz.fa36_1, len_slice Tryz.underlying31, len_slice Tryz.underlying56, H.lay, rowO_put, rowA_cells, Nat.zero_add, Nat.add_zero, ↓reduceIte, c0]; rfl) ?_)); refine AOps.nil ?_
    (repeat refine AWp.seq ?_); change AWp _ _ _ _ _; refine AWp.no (by rfl) (by rfl) (AWp.skip ?_)
    (repeat refine AWp.seq ?_); change AWp _ _ _ _ _; refine AWp.region ?_; (repeat (first | refine AOps.v rfl rfl rfl rfl rfl (by simp only [evS, cond_tt, cond_ff, absV, depthV, Nat.reduceEqDiff, Nat.reduceLT, ↓reduceIte, Option.map_some, Option.bind_some, List.toList_toArray]; rfl) ?_ | refine AOps.s rfl rfl rfl ?_ | refine AOps.u rfl rfl rfl rfl (by simp only [evS, cond_tt, cond_ff, absV, depthV, Nat.reduceEqDiff, Nat.reduceLT, ↓reduceIte, Option.map_some, Option.bind_some, List.toList_toArray]; rfl) ?_)); refine AOps.nil ?_
    refine AWp.block (AWp.loop (fun m st => ∃ k kn : Nat, k ≤ a.length ∧ m = a.length - k ∧ h.next ≤ kn ∧ (∀ i : Nat, i < k → a[i]? = b[i]?) ∧
      Fr st [(0, .slice o a.length e c), (1, .slice o' b.length e' c'), (4, .bool false), (5, .int .i64 (k : Int))] 26 ⟨h.objs, h.fams, kn, h.next⟩ []) a.length ?_ ?_)
    · exact ⟨0, h.next, by omega, by omega, Nat.le_refl _, fun i hi => by omega, rfl, rfl, rfl, rfl, rfl, rfl, rfl, trivial⟩
    rintro m st ⟨k, kn, hk, rfl, hkn, hall, hF⟩
    obtain ⟨f, rfl⟩ := hF.open
    simp only [updL]
    by_cases hlt : k < a.length
    · have hlt2 : k < b.length := by omega
      have c1 : decide ((k : Int) < (a.length : Int)) = true := by simp only [decide_eq_true_eq]; omega
      obtain ⟨s, hs⟩ : ∃ t, a[k]? = some t := ⟨a[k], List.getElem?_eq_getElem hlt⟩
      obtain ⟨t, ht⟩ : ∃ t, b[k]? = some t := ⟨b[k], List.getElem?_eq_getElem hlt2⟩
      obtain ⟨id, off, cap, cs, hv', hid, hrow, hcl, hch, hcell⟩ := hv.open (i := k) (by rw [List.length_map]; exact hlt)
      rw [List.length_map] at hv'
      cases hv'
      obtain ⟨id2, off2, cap2, cs2, hw', hid2, hrow2, hcl2, hch2, hcell2⟩ := hw.open (i := k) (by rw [List.length_map]; exact hlt2)
      rw [List.length_map] at hw'
      cases hw'
      have kc := hch _ _ (rowsS_get a hs)
      have kc2 := hch2 _ _ (rowsS_get b ht)
      (repeat refine AWp.seq ?_); change AWp _ _ _ _ _; refine AWp.region ?_; (repeat (first | refine AOps.v rfl rfl rfl rfl rfl (by simp only [evS, cond_tt, cond_ff, absV, depthV, Nat.reduceEqDiff, Nat.reduceLT, ↓reduceIte, Option.map_some, Option.bind_some, List.toList_toArray, load_agg Tryz.agg60 Tryz.size60, load_agg Tryz.agg36 Tryz.size36, load_one Tryz.agg9, load_one Tryz.agg3, load_one Tryz.agg31, load_one Tryz.agg56, Tryz.fa60_0, Tryz.fa60_1, Tryz.fa60_2, Tryz.fa36_0, Tryz.fa36_1, len_slice Tryz.underlying31, len_slice Tryz.underlying56, H.lay, rowO_put, rowA_cells, Nat.zero_add, Nat.add_zero, ↓reduceIte, c1]; rfl) ?_ | refine AOps.s rfl rfl rfl ?_ | refine AOps.u rfl rfl rfl rfl (by simp only [evS, cond_tt, cond_ff, absV, depthV, Nat.reduceEqDiff, Nat.reduceLT, ↓reduceIte, Option.map_some, Option.bind_some, List.toList_toArray, load_agg Tryz.agg60 Tryz.size60, load_agg Tryz.agg36 Tryz.size36, load_one Tryz.agg9, load_one Tryz.agg3, load_one Tryz.agg31, load_one Tryz.agg56, Tryz.fa60_0, Tryz.fa60_1, Tryz.fa60_2, Tryz.fa36_0, Tryz.fa36_1, len_slice Tryz.underlying31, len_slice Tryz.underlying56, H.lay, rowO_put, rowA_cells, Nat.zero_add, Nat.add_zero, ↓reduceIte, c1]; rfl) ?_)); refine AOps.nil ?_
      (repeat refine AWp.seq ?_); change AWp _ _ _ _ _; refine AWp.yes (by rfl) (by rfl) (AWp.skip ?_)
      (repeat refine AWp.seq ?_)
      refine AWp.block ?_
      cases e1 : decide (s = t)
      · (repeat refine AWp.seq ?_)
        refine AWp.draws (cv := cv0) cv0_ok rfl (L := 9) rfl (ms := [0, 0, 3, 7, 0, 0, 48, 112, 255]) (by kernel_rfl) (by kernel_rfl) ?_
        (repeat (first | refine DRun.r rfl rfl rfl rfl rfl rfl (by simp only [evS, cond_tt, cond_ff, absV, depthV, Nat.reduceEqDiff, Nat.reduceLT, ↓reduceIte, Option.map_some, Option.bind_some, List.toList_toArray, addX_nil, updo_some, updo_none, orU_some, List.filter_nil, load_agg Tryz.agg60 Tryz.size60, load_agg Tryz.agg36 Tryz.size36, load_one Tryz.agg9, load_one Tryz.agg3, load_one Tryz.agg31, load_one Tryz.agg56, Tryz.fa60_0, Tryz.fa60_1, Tryz.fa60_2, Tryz.fa36_0, Tryz.fa36_1, len_slice Tryz.underlying31, len_slice Tryz.underlying56, H.lay, rowO_put, rowA_cells, Nat.zero_add, Nat.add_zero, ↓reduceIte, iaddr_slice Tryz.underlying31 Tryz.size36 hlt, iaddr_slice Tryz.underlying31 Tryz.size36 hlt2, hrow, hrow2, kc, kc2, neq36 s t 36 rfl, e1]; rfl) ?_ | refine DRun.s rfl rfl rfl ?_))
        refine DRun.nil ⟨?_, ?_⟩
        · (intro y hy; simp only [List.nil_append, List.cons_append, List.mem_cons, List.not_mem_nil, or_false] at hy; (repeat' (rcases hy with hy | hy)) <;> (try subst hy) <;> refine ⟨by first | exact eqTop_str _ _ | exact eqTop_int _ _ _ | exact eqTop_bool _ _ | exact eqTop_ptr _ _ _ | exact eqTop_map _ _ | exact eqTop_slice _ _ _ _ _ _ | exact eqTop_sh _ _ | (simp only [eqTop_agg, eqTop_tup, eqTop, all2, eqL_eq, eqI_eq, kEq, decide_true, Bool.and_self, Bool.and_true]; done), ?_⟩ <;> (simp only [phOk]; refine ⟨?_, trivial⟩) <;> first | exact trivial | exact Or.inl rfl | exact Or.inr ⟨_, by simp only [evS, cond_tt, cond_ff, absV, depthV, Nat.reduceEqDiff, Nat.reduceLT, ↓reduceIte, Option.map_some, Option.bind_some, List.toList_toArray, addX_nil, updo_some, updo_none, orU_some, List.filter_nil, load_agg Tryz.agg60 Tryz.size60, load_agg Tryz.agg36 Tryz.size36, load_one Tryz.agg9, load_one Tryz.agg3, load_one Tryz.agg31, load_one Tryz.agg56, Tryz.fa60_0, Tryz.fa60_1, Tryz.fa60_2, Tryz.fa36_0, Tryz.fa36_1, len_slice Tryz.underlying31, len_slice Tryz.underlying56, H.lay, rowO_put, rowA_cells, Nat.zero_add, Nat.add_zero, ↓reduceIte, iaddr_slice Tryz.underlying31 Tryz.size36 hlt, iaddr_slice Tryz.underlying31 Tryz.size36 hlt2, hrow, hrow2, kc, kc2, neq36 s t 36 rfl, e1]; rfl⟩)
        simp only [List.filter_nil, addX_nil, updo_some, updo_none, orU_some]
        show AWp _ _ _ _ _
        (repeat refine AWp.seq ?_); change AWp _ _ _ _ _; refine AWp.yes (by rfl) (by rfl) ?_
        (repeat refine AWp.seq ?_); change AWp _ _ _ _ _; refine AWp.region ?_; (repeat (first | refine AOps.v rfl rfl rfl rfl rfl (by simp only [evS, cond_tt, cond_ff, absV, depthV, Nat.reduceEqDiff, Nat.reduceLT, ↓reduceIte, Option.map_some, Option.bind_some, List.toList_toArray]; rfl) ?_ | refine AOps.s rfl rfl rfl ?_ | refine AOps.u rfl rfl rfl rfl (by simp only [evS, cond_tt, cond_ff, absV, depthV, Nat.reduceEqDiff, Nat.reduceLT, ↓reduceIte, Option.map_some, Option.bind_some, List.toList_toArray]; rfl) ?_)); refine AOps.nil ?_
        refine AWp.ret ?_
        have hne : decide (a = b) = false := by
          rw [decide_eq_false_iff_not]; intro hab; subst hab
          rw [hs] at ht; cases ht; simp at e1
        (try simp only [OutOf, Then, Round, NoGoto]); refine leaves_plain (by rfl) (by rfl) (fun _ => rfl) (by rfl) ⟨?_, rfl⟩; rw [hne]; rfl
      · have est : s = t := by simpa using e1
        (repeat refine AWp.seq ?_)
        refine AWp.draws (cv := cv0) cv0_ok rfl (L := 9) rfl (ms := [0, 0, 3, 7, 0, 0, 48, 112, 255]) (by kernel_rfl) (by kernel_rfl) ?_
        (repeat (first | refine DRun.r rfl rfl rfl rfl rfl rfl (by simp only [evS, cond_tt, cond_ff, absV, depthV, Nat.reduceEqDiff, Nat.reduceLT, ↓reduceIte, Option.map_some, Option.bind_some, List.toList_toArray, addX_nil, updo_some, updo_none, orU_some, List.filter_nil, load_agg Tryz.agg60 Tryz.size60, load_agg Tryz.agg36 Tryz.size36, load_one Tryz.agg9, load_one Tryz.agg3, load_one Tryz.agg31, load_one Tryz.agg56, Tryz.fa60_0, Tryz.fa60_1, Tryz.fa60_2, Tryz.fa36_0, Tryz.fa36_1, len_slice Tryz.underlying31, len_slice Tryz.underlying56, H.lay, rowO_put, rowA_cells, Nat.zero_add, Nat.add_zero, ↓reduceIte, iaddr_slice Tryz.underlying31 Tryz.size36 hlt, iaddr_slice Tryz.underlying31 Tryz.size36 hlt2, hrow, hrow2, kc, kc2, neq36 s t 36 rfl, e1]; rfl) ?_ | refine DRun.s rfl rfl rfl ?_))
        refine DRun.nil ⟨?_, ?_⟩
        · (intro y hy; simp only [List.nil_append, List.cons_append, List.mem_cons, List.not_mem_nil, or_false] at hy; (repeat' (rcases hy with hy | hy)) <;> (try subst hy) <;> refine ⟨by first | exact eqTop_str _ _ | exact eqTop_int _ _ _ | exact eqTop_bool _ _ | exact eqTop_ptr _ _ _ | exact eqTop_map _ _ | exact eqTop_slice _ _ _ _ _ _ | exact eqTop_sh _ _ | (simp only [eqTop_agg, eqTop_tup, eqTop, all2, eqL_eq, eqI_eq, kEq, decide_true, Bool.and_self, Bool.and_true]; done), ?_⟩ <;> (simp only [phOk]; refine ⟨?_, trivial⟩) <;> first | exact trivial | exact Or.inl rfl | exact Or.inr ⟨_, by simp only [evS, cond_tt, cond_ff, absV, depthV, Nat.reduceEqDiff, Nat.reduceLT, ↓reduceIte, Option.map_some, Option.bind_some, List.toList_toArray, addX_nil, updo_some, updo_none, orU_some, List.filter_nil, load_agg Tryz.agg60 Tryz.size60, load_agg Tryz.agg36 Tryz.size36, load_one Tryz.agg9, load_one Tryz.agg3, load_one Tryz.agg31, load_one Tryz.agg56, Tryz.fa60_0, Tryz.fa60_1, Tryz.fa60_2, Tryz.fa36_0, Tryz.fa36_1, len_slice Tryz.underlying31, len_slice Tryz.underlying56, H.lay, rowO_put, rowA_cells, Nat.zero_add, Nat.add_zero, ↓reduceIte, iaddr_slice Tryz.underlying31 Tryz.size36 hlt, iaddr_slice Tryz.underlying31 Tryz.size36 hlt2, hrow, hrow2, kc, kc2, neq36 s t 36 rfl, e1]; rfl⟩)
        simp only [List.filter_nil, addX_nil, updo_some, updo_none, orU_some]
        show AWp _ _ _ _ _
        (repeat refine AWp.seq ?_); change AWp _ _ _ _ _; refine AWp.no (by rfl) (by rfl) (AWp.skip ?_)
        (repeat refine AWp.seq ?_); change AWp _ _ _ _ _; refine AWp.region ?_; (repeat (first | refine AOps.v rfl rfl rfl rfl rfl (by simp only [evS, cond_tt, cond_ff, absV, depthV, Nat.reduceEqDiff, Nat.reduceLT, ↓reduceIte, Option.map_some, Option.bind_some, List.toList_toArray, bin_add (show -9223372036854775808 ≤ (k : Int) + 1 ∧ (k : Int) + 1 ≤ 9223372036854775807 from ⟨by omega, by omega⟩)]; rfl) ?_ | refine AOps.s rfl rfl rfl ?_ | refine AOps.u rfl rfl rfl rfl (by simp only [evS, cond_tt, cond_ff, absV, depthV, Nat.reduceEqDiff, Nat.reduceLT, ↓reduceIte, Option.map_some, Option.bind_some, List.toList_toArray, bin_add (show -9223372036854775808 ≤ (k : Int) + 1 ∧ (k : Int) + 1 ≤ 9223372036854775807 from ⟨by omega, by omega⟩)]; rfl) ?_)); refine AOps.nil ?_
        refine ⟨a.length - (k + 1), by omega, k + 1, kn + 9, by omega, rfl, by omega, fun i hi => ?_, rfl, rfl, rfl, rfl, rfl, rfl, rfl, trivial⟩
        by_cases ee : i = k
        · subst ee; rw [hs, ht, est]
        · exact hall i (by omega)
    · have hkk : k = a.length := by omega
      subst hkk
      have c1 : decide ((a.length : Int) < (a.length : Int)) = false := by simp
      (repeat refine AWp.seq ?_); change AWp _ _ _ _ _; refine AWp.region ?_; (repeat (first | refine AOps.v rfl rfl rfl rfl rfl (by simp only [evS, cond_tt, cond_ff, absV, depthV, Nat.reduceEqDiff, Nat.reduceLT, ↓reduceIte, Option.map_some, Option.bind_some, List.toList_toArray, load_agg Tryz.agg60 Tryz.size60, load_agg Tryz.agg36 Tryz.size36, load_one Tryz.agg9, load_one Tryz.agg3, load_one Tryz.agg31, load_one Tryz.agg56, Tryz.fa60_0, Tryz.fa60_1, Tryz.fa60_2, Tryz.fa36_0, Tryz.fa36_1, len_slice Tryz.underlying31, len_slice Tryz.underlying56, H.lay, rowO_put, rowA_cells, Nat.zero_add, Nat.add_zero, ↓reduceIte, c1]; rfl) ?_ | refine AOps.s rfl rfl rfl ?_ | refine AOps.u rfl rfl rfl rfl (by simp only [evS, cond_tt, cond_ff, absV, depthV, Nat.reduceEqDiff, Nat.reduceLT, ↓reduceIte, Option.map_some, Option.bind_some, List.toList_toArray, load_agg Tryz.agg60 Tryz.size60, load_agg Tryz.agg36 Tryz.size36, load_one Tryz.agg9, load_one Tryz.agg3, load_one Tryz.agg31, load_one Tryz.agg56, Tryz.fa60_0, Tryz.fa60_1, Tryz.fa60_2, Tryz.fa36_0, Tryz.fa36_1, len_slice Tryz.underlying31, len_slice Tryz.underlying56, H.lay, rowO_put, rowA_cells, Nat.zero_add, Nat.add_zero, ↓reduceIte, c1]; rfl) ?_)); refine AOps.nil ?_
      (repeat refine AWp.seq ?_); change AWp _ _ _ _ _; refine AWp.no (by rfl) (by rfl) ?_
      refine AWp.exit ?_
      (repeat refine AWp.seq ?_); change AWp _ _ _ _ _; refine AWp.region ?_; (repeat (first | refine AOps.v rfl rfl rfl rfl rfl (by simp only [evS, cond_tt, cond_ff, absV, depthV, Nat.reduceEqDiff, Nat.reduceLT, ↓reduceIte, Option.map_some, Option.bind_some, List.toList_toArray]; rfl) ?_ | refine AOps.s rfl rfl rfl ?_ | refine AOps.u rfl rfl rfl rfl (by simp only [evS, cond_tt, cond_ff, absV, depthV, Nat.reduceEqDiff, Nat.reduceLT, ↓reduceIte, Option.map_some, Option.bind_some, List.toList_toArray]; rfl) ?_)); refine AOps.nil ?_
      refine AWp.ret ?_
      have heq : decide (a = b) = true := by
        rw [decide_eq_true_eq]
        apply List.ext_getElem?
        intro i
        by_cases hi : i < a.length
        · exact hall i hi
        · rw [List.getElem?_eq_none (by omega), List.getElem?_eq_none (by omega)]
      (try simp only [OutOf, Then, Round, NoGoto]); refine leaves_plain (by rfl) (by rfl) (fun _ => rfl) (by rfl) ⟨?_, rfl⟩; rw [heq]; rfl
  · have c0 : decide ((a.length : Int) = (b.length : Int)) = false := by rw [decide_eq_false_iff_not]; omega
    have hne : decide (a = b) = false := by rw [decide_eq_false_iff_not]; intro hab; subst hab; exact hl rfl
    (repeat refine AWp.seq ?_); change AWp _ _ _ _ _; refine AWp.region ?_; (repeat (first | refine AOps.v rfl rfl rfl rfl rfl (by simp only [evS, cond_tt, cond_ff, absV, depthV, Nat.reduceEqDiff, Nat.reduceLT, ↓reduceIte, Option.map_some, Option.bind_some, List.toList_toArray, load_agg Tryz.agg60 Tryz.size60, load_agg Tryz.agg36 Tryz.size36, load_one Tryz.agg9, load_one Tryz.agg3, load_one Tryz.agg31, load_one Tryz.agg56, Tryz.fa60_0, Tryz.fa60_1, Tryz.fa60_2, Tryz.fa36_0, Tryz.fa36_1, len_slice Tryz.underlying31, len_slice Tryz.underlying56, H.lay, rowO_put, rowA_cells, Nat.zero_add, Nat.add_zero, ↓reduceIte, c0]; rfl) ?_ | refine AOps.s rfl rfl rfl ?_ | refine AOps.u rfl rfl rfl rfl (by simp only [evS, cond_tt, cond_ff, absV, depthV, Nat.reduceEqDiff, Nat.reduceLT, ↓reduceIte, Option.map_some, Option.bind_some, List.toList_toArray, load_agg Tryz.agg60 Tryz.size60, load_agg Tryz.agg36 Tryz.size36, load_one Tryz.agg9, load_one Tryz.agg3, load_one Tryz.agg31, load_one Tryz.agg56, Tryz.fa60_0, Tryz.fa60_1, Tryz.fa60_2, Tryz.fa36_0, Tryz.fa36_1, len_slice Tryz.underlying31, len_slice Tryz.underlying56, H.lay, rowO_put, rowA_cells, Nat.zero_add, Nat.add_zero, ↓reduceIte, c0]; rfl) ?_)); refine AOps.nil ?_
    (repeat refine AWp.seq ?_); change AWp _ _ _ _ _; refine AWp.yes (by rfl) (by rfl) ?_
    (repeat refine AWp.seq ?_); change AWp _ _ _ _ _; refine AWp.region ?_; (repeat (first | refine AOps.v rfl rfl rfl rfl rfl (by simp only [evS, cond_tt, cond_ff, absV, depthV, Nat.reduceEqDiff, Nat.reduceLT, ↓reduceIte, Option.map_some, Option.bind_some, List.toList_toArray]; rfl) ?_ | refine AOps.s rfl rfl rfl ?_ | refine AOps.u rfl rfl rfl rfl (by simp only [evS, cond_tt, cond_ff, absV, depthV, Nat.reduceEqDiff, Nat.reduceLT, ↓reduceIte, Option.map_some, Option.bind_some, List.toList_toArray]; rfl) ?_)); refine AOps.nil ?_
    refine AWp.ret ?_
    (try simp only [OutOf, Then, Round, NoGoto]); refine leaves_plain (by rfl) (by rfl) (fun _ => rfl) (by rfl) ⟨?_, rfl⟩; rw [hne]; rfl

end Go.Proofs
