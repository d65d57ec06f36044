/- Seat r1: cost.divide. No conditions beyond those that each theorem states. -/
import Derived.Test.YthfdoggncbcmjaaGreatCb

set_option linter.unusedSimpArgs false
set_option linter.unusedVariables false
set_option linter.unusedSectionVars false

namespace Go.Proofs
open Go.Ev
set_option maxRecDepth 100000

def idxW (ws : List Wy) (g : Wy → Bool) : Int := match ws.findIdx? g with
  | some i => (i : Int)
  | none => -1

set_option maxHeartbeats 2000000 in
theorem Tryz.indexW (ws : List Wy) (g : Wy → Bool) (hlen : ws.length ≤ 1000) (v fv : AV) (cap : List AV) (fid : FuncId) (hfv : fv = .fn (.func fid) [] cap) (h : H) (hv : RdS h v 5 (ws.map Wy.cells))
    (hg : ∀ w ∈ ws, ∀ n lw, h.next ≤ n → ACalls Tryz.prog (.func fid) ([.agg w.cells] ++ cap) ⟨h.objs, h.fams, n, lw⟩ (fun r h' => r = .bool (g w) ∧ h' = ⟨h.objs, h.fams, n, lw⟩)) :
    ACalls Tryz.prog (.func 69) [v, fv] h (fun r h' => r = .int .i64 (idxW ws g) ∧ h' = h) := by
  subst hfv
  refine ACalls.body (n := 19) Tryz.nogo Tryz.func69 rfl rfl ?_
  rw [argF2]
  obtain ⟨lo, le, lc, rfl⟩ := hv.len
  rw [List.length_map] at hv ⊢
  (repeat refine AWp.seq ?_); change AWp _ _ _ _ _; refine AWp.region ?_; (repeat (first | refine AOps.v rfl rfl rfl rfl rfl (by simp only [evS, cond_tt, cond_ff, absV, depthV, Nat.reduceEqDiff, Nat.reduceLT, ↓reduceIte, Option.map_some, Option.bind_some, List.toList_toArray]; rfl) ?_ | refine AOps.s rfl rfl rfl ?_ | refine AOps.u rfl rfl rfl rfl (by simp only [evS, cond_tt, cond_ff, absV, depthV, Nat.reduceEqDiff, Nat.reduceLT, ↓reduceIte, Option.map_some, Option.bind_some, List.toList_toArray]; rfl) ?_)); refine AOps.nil ?_
  (repeat refine AWp.seq ?_); change AWp _ _ _ _ _; refine AWp.region ?_; (repeat (first | refine AOps.v rfl rfl rfl rfl rfl (by simp only [evS, cond_tt, cond_ff, absV, depthV, Nat.reduceEqDiff, Nat.reduceLT, ↓reduceIte, Option.map_some, Option.bind_some, List.toList_toArray, Tryz.tw, H.lay, Nat.zero_add, Nat.add_zero, ↓reduceIte, List.getElem?_cons_zero, List.getElem?_cons_succ]; rfl) ?_ | refine AOps.s rfl rfl rfl ?_ | refine AOps.u rfl rfl rfl rfl (by simp only [evS, cond_tt, cond_ff, absV, depthV, Nat.reduceEqDiff, Nat.reduceLT, ↓reduceIte, Option.map_some, Option.bind_some, List.toList_toArray, Tryz.tw, H.lay, Nat.zero_add, Nat.add_zero, ↓reduceIte, List.getElem?_cons_zero, List.getElem?_cons_succ]; rfl) ?_)); refine AOps.nil ?_
  refine AWp.block (AWp.loop (fun m st => ∃ k : Nat, k ≤ ws.length ∧ m = ws.length - k ∧ (∀ i w, i < k → ws[i]? = some w → g w = false) ∧
    Fr st [(0, .slice lo ws.length le lc), (1, .fn (.func fid) [] cap), (7, .int .i64 (ws.length : Int)), (8, .int .i64 (k : Int))] 19 ⟨h.objs, h.fams, h.next, h.next⟩ []) ws.length ?_ ?_)
  · exact ⟨0, by omega, by omega, fun i w hi => by omega, rfl, rfl, rfl, rfl, rfl, rfl, rfl, trivial⟩
  rintro m st ⟨k, hk, rfl, hall, hF⟩
  obtain ⟨f, rfl⟩ := hF.open
  clear hF
  simp only [updL]
  by_cases hlt : k < ws.length
  · have c1 : decide ((k : Int) < (ws.length : Int)) = true := by simp only [decide_eq_true_eq]; omega
    obtain ⟨w, hwk⟩ : ∃ w, ws[k]? = some w := ⟨ws[k], List.getElem?_eq_getElem hlt⟩
    obtain ⟨id, off, cap', cs, hv', hid, hrow, hcl, hch, hcell⟩ := hv.open (i := k) (by rw [List.length_map]; exact hlt)
    rw [List.length_map] at hv'
    cases hv'
    have kc := hch _ _ (rowsW_get ws hwk)
    (repeat refine AWp.seq ?_); change AWp _ _ _ _ _; refine AWp.region ?_; (repeat (first | refine AOps.v rfl rfl rfl rfl rfl (by simp only [evS, cond_tt, cond_ff, absV, depthV, Nat.reduceEqDiff, Nat.reduceLT, ↓reduceIte, Option.map_some, Option.bind_some, List.toList_toArray, c1]; rfl) ?_ | refine AOps.s rfl rfl rfl ?_ | refine AOps.u rfl rfl rfl rfl (by simp only [evS, cond_tt, cond_ff, absV, depthV, Nat.reduceEqDiff, Nat.reduceLT, ↓reduceIte, Option.map_some, Option.bind_some, List.toList_toArray, c1]; rfl) ?_)); refine AOps.nil ?_
    (repeat refine AWp.seq ?_); change AWp _ _ _ _ _; refine AWp.yes (by rfl) (by rfl) (AWp.skip ?_)
    (repeat refine AWp.seq ?_)
    refine AWp.block ?_
    (repeat refine AWp.seq ?_); change AWp _ _ _ _ _; refine AWp.region ?_; (repeat (first | refine AOps.v rfl rfl rfl rfl rfl (by simp only [evS, cond_tt, cond_ff, absV, depthV, Nat.reduceEqDiff, Nat.reduceLT, ↓reduceIte, Option.map_some, Option.bind_some, List.toList_toArray]; rfl) ?_ | refine AOps.s rfl rfl rfl ?_ | refine AOps.u rfl rfl rfl rfl (by simp only [evS, cond_tt, cond_ff, absV, depthV, Nat.reduceEqDiff, Nat.reduceLT, ↓reduceIte, Option.map_some, Option.bind_some, List.toList_toArray]; rfl) ?_)); refine AOps.nil ?_
    (repeat refine AWp.seq ?_); change AWp _ _ _ _ _; refine AWp.region ?_; (repeat (first | refine AOps.v rfl rfl rfl rfl rfl (by simp only [evS, cond_tt, cond_ff, absV, depthV, Nat.reduceEqDiff, Nat.reduceLT, ↓reduceIte, Option.map_some, Option.bind_some, List.toList_toArray, Tryz.tw, H.lay, Nat.zero_add, Nat.add_zero, ↓reduceIte, List.getElem?_cons_zero, List.getElem?_cons_succ, iaddr_slice Tryz.underlying22 Tryz.size59 hlt, hrow, kc]; rfl) ?_ | refine AOps.s rfl rfl rfl ?_ | refine AOps.u rfl rfl rfl rfl (by simp only [evS, cond_tt, cond_ff, absV, depthV, Nat.reduceEqDiff, Nat.reduceLT, ↓reduceIte, Option.map_some, Option.bind_some, List.toList_toArray, Tryz.tw, H.lay, Nat.zero_add, Nat.add_zero, ↓reduceIte, List.getElem?_cons_zero, List.getElem?_cons_succ, iaddr_slice Tryz.underlying22 Tryz.size59 hlt, hrow, kc]; rfl) ?_))
    refine AOps.c rfl rfl rfl rfl rfl (by simp only [callOf_val, callW_fn, evS, cond_tt, cond_ff, absV, depthV, Nat.reduceEqDiff, Nat.reduceLT, ↓reduceIte, Option.map_some, Option.bind_some, List.toList_toArray]; rfl) rfl (hg w (List.mem_of_getElem? hwk) h.next h.next (Nat.le_refl _)) ?_
    rintro _ _ ⟨rfl, rfl⟩
    refine AOps.nil ?_
    cases e1 : g w
    · (repeat refine AWp.seq ?_); change AWp _ _ _ _ _; refine AWp.no (by rfl) (by rfl) (AWp.skip ?_)
      (repeat refine AWp.seq ?_); change AWp _ _ _ _ _; refine AWp.region ?_; (repeat (first | refine AOps.v rfl rfl rfl rfl rfl (by simp only [evS, cond_tt, cond_ff, absV, depthV, Nat.reduceEqDiff, Nat.reduceLT, ↓reduceIte, Option.map_some, Option.bind_some, List.toList_toArray, bin_add (show -9223372036854775808 ≤ (k : Int) + 1 ∧ (k : Int) + 1 ≤ 9223372036854775807 from ⟨by omega, by omega⟩)]; rfl) ?_ | refine AOps.s rfl rfl rfl ?_ | refine AOps.u rfl rfl rfl rfl (by simp only [evS, cond_tt, cond_ff, absV, depthV, Nat.reduceEqDiff, Nat.reduceLT, ↓reduceIte, Option.map_some, Option.bind_some, List.toList_toArray, bin_add (show -9223372036854775808 ≤ (k : Int) + 1 ∧ (k : Int) + 1 ≤ 9223372036854775807 from ⟨by omega, by omega⟩)]; rfl) ?_)); refine AOps.nil ?_
      refine ⟨ws.length - (k + 1), by omega, k + 1, by omega, rfl, fun i u hi hu => ?_, rfl, rfl, rfl, ?_⟩
      · by_cases hik : i = k
        · subst hik; rw [hwk] at hu; cases hu; exact e1
        · exact hall i u (by omega) hu
      · simp only [Has, upd_eq]
        exact ⟨rfl, rfl, rfl, rfl, trivial⟩
    · have hidx : idxW ws g = (k : Int) := by
        have : ws.findIdx? g = some k := by
          rw [List.findIdx?_eq_some_iff_getElem]
          refine ⟨hlt, ?_, fun j hj => ?_⟩
          · have : ws[k] = w := by rw [List.getElem?_eq_getElem hlt] at hwk; exact Option.some.inj hwk
            rw [this]; exact e1
          · rw [hall j ws[j] hj (List.getElem?_eq_getElem (by omega))]; decide
        unfold idxW; rw [this]
      (repeat refine AWp.seq ?_); change AWp _ _ _ _ _; refine AWp.yes (by rfl) (by rfl) ?_
      (repeat refine AWp.seq ?_); change AWp _ _ _ _ _; refine AWp.region ?_; (repeat (first | refine AOps.v rfl rfl rfl rfl rfl (by simp only [evS, cond_tt, cond_ff, absV, depthV, Nat.reduceEqDiff, Nat.reduceLT, ↓reduceIte, Option.map_some, Option.bind_some, List.toList_toArray]; rfl) ?_ | refine AOps.s rfl rfl rfl ?_ | refine AOps.u rfl rfl rfl rfl (by simp only [evS, cond_tt, cond_ff, absV, depthV, Nat.reduceEqDiff, Nat.reduceLT, ↓reduceIte, Option.map_some, Option.bind_some, List.toList_toArray]; rfl) ?_)); refine AOps.nil ?_
      refine AWp.ret ?_
      (try simp only [OutOf, Then, Round, NoGoto]); refine leaves_plain (by rfl) (by rfl) (fun _ => rfl) (by rfl) ⟨?_, rfl⟩; rw [hidx]; rfl
  · have hkk : k = ws.length := by omega
    subst hkk
    have c1 : decide ((ws.length : Int) < (ws.length : Int)) = false := by simp
    have hidx : idxW ws g = -1 := by
      have : ws.findIdx? g = none := by
        rw [List.findIdx?_eq_none_iff]
        intro w hw
        obtain ⟨i, hi⟩ := List.mem_iff_getElem?.1 hw
        exact hall i w (idx_lt hi) hi
      unfold idxW; rw [this]
    (repeat refine AWp.seq ?_); change AWp _ _ _ _ _; refine AWp.region ?_; (repeat (first | refine AOps.v rfl rfl rfl rfl rfl (by simp only [evS, cond_tt, cond_ff, absV, depthV, Nat.reduceEqDiff, Nat.reduceLT, ↓reduceIte, Option.map_some, Option.bind_some, List.toList_toArray, c1]; rfl) ?_ | refine AOps.s rfl rfl rfl ?_ | refine AOps.u rfl rfl rfl rfl (by simp only [evS, cond_tt, cond_ff, absV, depthV, Nat.reduceEqDiff, Nat.reduceLT, ↓reduceIte, Option.map_some, Option.bind_some, List.toList_toArray, c1]; rfl) ?_)); refine AOps.nil ?_
    (repeat refine AWp.seq ?_); change AWp _ _ _ _ _; refine AWp.no (by rfl) (by rfl) ?_
    refine AWp.exit ?_
    (try simp only [OutOf, Then, Round, NoGoto, if_true])
    (repeat refine AWp.seq ?_); change AWp _ _ _ _ _; refine AWp.region ?_; (repeat (first | refine AOps.v rfl rfl rfl rfl rfl (by simp only [evS, cond_tt, cond_ff, absV, depthV, Nat.reduceEqDiff, Nat.reduceLT, ↓reduceIte, Option.map_some, Option.bind_some, List.toList_toArray]; rfl) ?_ | refine AOps.s rfl rfl rfl ?_ | refine AOps.u rfl rfl rfl rfl (by simp only [evS, cond_tt, cond_ff, absV, depthV, Nat.reduceEqDiff, Nat.reduceLT, ↓reduceIte, Option.map_some, Option.bind_some, List.toList_toArray]; rfl) ?_)); refine AOps.nil ?_
    refine AWp.ret ?_
    (try simp only [OutOf, Then, Round, NoGoto]); refine leaves_plain (by rfl) (by rfl) (fun _ => rfl) (by rfl) ⟨?_, rfl⟩; rw [hidx]; rfl

/-- Who bears a cost. -/
def billOf (ws : List Wy) (po : Option Pt) (c : Co) : List (List Nat × Int) := match po with
  | none => [(c.owner, c.am)]
  | some p => match ws.find? (coversB p c) with
    | none => [(c.owner, c.am)]
    | some w => putM w.maker (getM 0 w.maker (putM c.owner (c.am - pctN c.am w.pct) [(c.owner, c.am)]) + pctN c.am w.pct) (putM c.owner (c.am - pctN c.am w.pct) [(c.owner, c.am)])

def DivQ (ws : List Wy) (ps : List Pt) (c : Co) (h : H) (v : AV) (h' : H) : Prop := ∃ m, v = .tup [.map (some m), .bool (findP ps c.part).isSome] ∧ Over h.next h h' ∧ h.next ≤ m ∧ m < h'.next ∧ MapAt sAV intAV h'.objs m (billOf ws (findP ps c.part) c)

theorem Tryz.zero3' : zeroA Tryz.prog 3 = some (.int .i64 0) := by kernel_rfl

theorem pct_of_ok {w : Wy} {c : Co} (hw : w.ok = true) (hc : c.ok = true) : pctOk c.am w.pct = true ∧ (0 ≤ c.am ∧ c.am ≤ 1000000000000) ∧ (0 ≤ w.pct ∧ w.pct ≤ 100) := by
  unfold Wy.ok at hw
  unfold Co.ok at hc
  simp only [Bool.and_eq_true, isAm, decide_eq_true_eq] at hw hc
  unfold pctOk isAm
  simp only [Bool.and_eq_true, decide_eq_true_eq]
  omega

set_option maxHeartbeats 4000000 in
theorem Tryz.divide (ws : List Wy) (ps : List Pt) (c : Co) (hlw : ws.length ≤ 1000) (hlp : ps.length ≤ 100000) (hok : rightB ws c = true) (v pv : AV) (h : H) (hv : RdS h v 5 (ws.map Wy.cells)) (hp : RdS h pv 14 (ps.map Pt.cells)) (hpv1 : pv.cells = [pv]) (hone : ∀ p ∈ ps, oneC p.props = true) :
    ACalls Tryz.prog (.func 27) [v, .agg [pv], .agg c.cells] h (DivQ ws ps c h) := by
  have hok' : ws.all Wy.ok = true ∧ c.ok = true := by unfold rightB at hok; simpa using hok
  have hcd : 0 ≤ c.day ∧ c.day ≤ 40000 := by
    have := hok'.2
    unfold Co.ok isDy at this
    simp only [Bool.and_eq_true, decide_eq_true_eq] at this; omega
  refine ACalls.body (n := 65) Tryz.nogo Tryz.func27 rfl rfl ?_
  rw [argF3]
  obtain ⟨lo, le, lc, rfl⟩ := hv.len
  rw [List.length_map] at hv ⊢
  have hv0 : RdS ⟨h.objs, h.fams, h.next, h.next⟩ (.slice lo ws.length le lc) 5 (ws.map Wy.cells) := ⟨hv.wide, hv.at'⟩
  have hp0 : RdS ⟨h.objs, h.fams, h.next, h.next⟩ pv 14 (ps.map Pt.cells) := ⟨hp.wide, hp.at'⟩
  have q0 : c.cells[0]? = some (.str c.part) := rfl
  have q1 : c.cells[1]? = some (.str c.owner) := rfl
  have q3 : c.cells[3]? = some (.int .i64 c.am) := rfl
  have hch1 : chunkL [pv] 0 1 = some [pv] := rfl
  have hch4 : chunkL c.cells 0 4 = some c.cells := rfl
  (repeat refine AWp.seq ?_); change AWp _ _ _ _ _; refine AWp.region ?_; (repeat (first | refine AOps.v rfl rfl rfl rfl rfl (by simp only [evS, cond_tt, cond_ff, absV, depthV, Nat.reduceEqDiff, Nat.reduceLT, ↓reduceIte, Option.map_some, Option.bind_some, List.toList_toArray, op_box, H.lay]; rfl) ?_ | refine AOps.s rfl rfl rfl ?_ | refine AOps.u rfl rfl rfl rfl (by simp only [evS, cond_tt, cond_ff, absV, depthV, Nat.reduceEqDiff, Nat.reduceLT, ↓reduceIte, Option.map_some, Option.bind_some, List.toList_toArray, op_box, H.lay]; rfl) ?_)); refine AOps.nil ?_
  obtain ⟨O2, hO2⟩ : ∃ X, X = Tr.put (Tr.put h.objs h.next (some (.cells [pv] h.next))) (h.next + 1) (some (.cells c.cells (h.next + 1))) := ⟨_, rfl⟩
  obtain ⟨F2, hF2⟩ : ∃ X, X = Tr.put (Tr.put h.fams h.next (some (h.next, h.next))) (h.next + 1) (some (h.next + 1, h.next + 1)) := ⟨_, rfl⟩
  rw [← hO2, ← hF2]
  have g0 : rowO O2 h.next = some [pv] := by unfold rowO; rw [hO2, put_other _ _ (by omega), put_same]; rfl
  have g1 : rowO O2 (h.next + 1) = some c.cells := by unfold rowO; rw [hO2, put_same]; rfl
  have hov2 : Over h.next ⟨h.objs, h.fams, h.next, h.next⟩ ⟨O2, F2, h.next + 1 + 1, h.next⟩ := Over.mk' (by omega) (fun j hj => by rw [hO2, put_other _ _ (by omega), put_other _ _ (by omega)]) (fun j hj => by rw [hF2, put_other _ _ (by omega), put_other _ _ (by omega)])
  clear hO2 hF2
  (repeat refine AWp.seq ?_); change AWp _ _ _ _ _; refine AWp.region ?_; (repeat (first | refine AOps.v rfl rfl rfl rfl rfl (by simp only [evS, cond_tt, cond_ff, absV, depthV, Nat.reduceEqDiff, Nat.reduceLT, ↓reduceIte, Option.map_some, Option.bind_some, List.toList_toArray, Tryz.tw, H.lay, Nat.zero_add, Nat.add_zero, ↓reduceIte, List.getElem?_cons_zero, List.getElem?_cons_succ, g0, g1, q0, hch1]; rfl) ?_ | refine AOps.s rfl rfl rfl ?_ | refine AOps.u rfl rfl rfl rfl (by simp only [evS, cond_tt, cond_ff, absV, depthV, Nat.reduceEqDiff, Nat.reduceLT, ↓reduceIte, Option.map_some, Option.bind_some, List.toList_toArray, Tryz.tw, H.lay, Nat.zero_add, Nat.add_zero, ↓reduceIte, List.getElem?_cons_zero, List.getElem?_cons_succ, g0, g1, q0, hch1]; rfl) ?_))
  refine AOps.c rfl rfl rfl rfl rfl (by simp only [callOf_val, callW_fn, evS, cond_tt, cond_ff, absV, depthV, Nat.reduceEqDiff, Nat.reduceLT, ↓reduceIte, Option.map_some, Option.bind_some, List.toList_toArray]; rfl) rfl (Tryz.find ps c.part hlp pv ⟨O2, F2, h.next + 1 + 1, h.next⟩ (rdS_over hov2 hp0) hpv1 hone) ?_
  rintro r ⟨o3, f3, n3, l3⟩ ⟨hov3, hfq⟩
  have hl3 : l3 = h.next := hov3.low (show h.next ≤ h.next + 1 + 1 by omega)
  subst hl3
  have hn3 : h.next + 1 + 1 ≤ n3 := hov3.next
  -- the part
  obtain ⟨p, is, hr, hpis, hpone⟩ : ∃ (p : Pt) (is : Bool), r = .tup [.agg p.cells, .bool is] ∧ ((is = true ∧ findP ps c.part = some p) ∨ (is = false ∧ findP ps c.part = none)) ∧ oneC p.props = true := by
    cases hf : findP ps c.part with
    | none => rw [hf] at hfq; exact ⟨Pt.zero, false, hfq, .inr ⟨rfl, rfl⟩, rfl⟩
    | some p => rw [hf] at hfq; exact ⟨p, true, hfq, .inl ⟨rfl, rfl⟩, hone p (List.mem_of_find?_eq_some hf)⟩
  subst hr
  have hpall : p.cells.all oneC = true := by simp only [Pt.cells, List.all_cons, List.all_nil, hpone]; rfl
  have h3c : rowO o3 (h.next + 1) = some c.cells := rowO_of g1 (hov3.objs _ (by simp only; omega))
  (repeat (first | refine AOps.v rfl rfl rfl rfl rfl (by simp only [evS, cond_tt, cond_ff, absV, depthV, Nat.reduceEqDiff, Nat.reduceLT, ↓reduceIte, Option.map_some, Option.bind_some, List.toList_toArray, Tryz.zero90, H.lay]; rfl) ?_ | refine AOps.s rfl rfl rfl ?_ | refine AOps.u rfl rfl rfl rfl (by simp only [evS, cond_tt, cond_ff, absV, depthV, Nat.reduceEqDiff, Nat.reduceLT, ↓reduceIte, Option.map_some, Option.bind_some, List.toList_toArray, Tryz.zero90, H.lay]; rfl) ?_))
  refine AOps.st rfl rfl rfl (by simp only [evS, cond_tt, cond_ff, absV, depthV, Nat.reduceEqDiff, Nat.reduceLT, ↓reduceIte, Option.map_some, Option.bind_some, List.toList_toArray]; rfl) (by simp only [evS, cond_tt, cond_ff, absV, depthV, Nat.reduceEqDiff, Nat.reduceLT, ↓reduceIte, Option.map_some, Option.bind_some, List.toList_toArray]; rfl) (by exact Tryz.size90) (by simp only [put_get]; rfl) (by simp only [put_get]; rfl) (by rfl) (by exact hpall) (cs' := p.cells) (by rfl) (minN_left (show h.next ≤ n3 by omega)) ?_
  (repeat (first | refine AOps.v rfl rfl rfl rfl rfl (by simp only [evS, cond_tt, cond_ff, absV, depthV, Nat.reduceEqDiff, Nat.reduceLT, ↓reduceIte, Option.map_some, Option.bind_some, List.toList_toArray]; rfl) ?_ | refine AOps.s rfl rfl rfl ?_ | refine AOps.u rfl rfl rfl rfl (by simp only [evS, cond_tt, cond_ff, absV, depthV, Nat.reduceEqDiff, Nat.reduceLT, ↓reduceIte, Option.map_some, Option.bind_some, List.toList_toArray]; rfl) ?_))
  refine AOps.nil ?_
  obtain ⟨O4, hO4⟩ : ∃ X, X = Tr.put (Tr.put o3 n3 (some (.cells Pt.zero.cells n3))) n3 (some (.cells p.cells n3)) := ⟨_, rfl⟩
  obtain ⟨F4, hF4⟩ : ∃ X, X = Tr.put f3 n3 (some (n3, n3)) := ⟨_, rfl⟩
  rw [← hO4, ← hF4]
  have g4p : rowO O4 n3 = some p.cells := by unfold rowO; rw [hO4, put_same]; rfl
  have hov4 : Over n3 ⟨o3, f3, n3, h.next⟩ ⟨O4, F4, n3 + 1, h.next⟩ := Over.mk' (by omega) (fun j hj => by rw [hO4, put_other _ _ (by omega), put_other _ _ (by omega)]) (fun j hj => by rw [hF4, put_other _ _ (by omega)])
  clear hO4 hF4
  have h4c : rowO O4 (h.next + 1) = some c.cells := rowO_of h3c (hov4.objs _ (by omega))
  -- the bill
  (repeat refine AWp.seq ?_)
  refine AWp.region ?_
  refine AOps.v rfl rfl rfl rfl rfl (by simp only [evS, cond_tt, cond_ff, absV, depthV, Nat.reduceEqDiff, Nat.reduceLT, ↓reduceIte, Option.map_some, Option.bind_some, List.toList_toArray, op_makeMap, H.lay]; rfl) ?_
  have hm0 : MapAt sAV intAV (Tr.put O4 (n3 + 1) (some (.map [] 0))) (n3 + 1) [] := put_same _ _ _
  have hr0 : ∀ j, j ≠ n3 + 1 → (Tr.put O4 (n3 + 1) (some (.map [] 0))).get j = O4.get j := fun j hj => put_other _ _ hj
  generalize Tr.put O4 (n3 + 1) (some (.map [] 0)) = O5 at hm0 hr0 ⊢
  have h5c : rowO O5 (h.next + 1) = some c.cells := rowO_of h4c (hr0 _ (by omega))
  (repeat (first | refine AOps.v rfl rfl rfl rfl rfl (by simp only [evS, cond_tt, cond_ff, absV, depthV, Nat.reduceEqDiff, Nat.reduceLT, ↓reduceIte, Option.map_some, Option.bind_some, List.toList_toArray, Tryz.tw, H.lay, Nat.zero_add, Nat.add_zero, ↓reduceIte, List.getElem?_cons_zero, List.getElem?_cons_succ, h5c, q1, q3]; rfl) ?_ | refine AOps.s rfl rfl rfl ?_ | refine AOps.u rfl rfl rfl rfl (by simp only [evS, cond_tt, cond_ff, absV, depthV, Nat.reduceEqDiff, Nat.reduceLT, ↓reduceIte, Option.map_some, Option.bind_some, List.toList_toArray, Tryz.tw, H.lay, Nat.zero_add, Nat.add_zero, ↓reduceIte, List.getElem?_cons_zero, List.getElem?_cons_succ, h5c, q1, q3]; rfl) ?_))
  refine AOps.mu (kv := sAV) (uv := intAV) (k := c.owner) (v := c.am) rfl (.inl rfl) rfl rfl (by simp only [evS, cond_tt, cond_ff, absV, depthV, Nat.reduceEqDiff, Nat.reduceLT, ↓reduceIte, Option.map_some, Option.bind_some, List.toList_toArray]) (by simp only [evS, cond_tt, cond_ff, absV, depthV, Nat.reduceEqDiff, Nat.reduceLT, ↓reduceIte, Option.map_some, Option.bind_some, List.toList_toArray]) (by simp only [evS, cond_tt, cond_ff, absV, depthV, Nat.reduceEqDiff, Nat.reduceLT, ↓reduceIte, Option.map_some, Option.bind_some, List.toList_toArray]; try rfl) Tryz.underlying94 Tryz.keysA hm0 (minN_left (show h.next ≤ n3 + 1 by omega)) ?_
  intro O6 hr1 hm1
  have hr6 : ∀ j, j ≠ n3 + 1 → O6.get j = O4.get j := fun j hj => by rw [hr1 j hj, hr0 j hj]
  have h6c : rowO O6 (h.next + 1) = some c.cells := rowO_of h4c (hr6 _ (by omega))
  have h6p : rowO O6 n3 = some p.cells := rowO_of g4p (hr6 _ (by omega))
  have hold6 : ∀ j, j < h.next → O6.get j = h.objs.get j := fun j hj => by rw [hr6 j (by omega), hov4.objs j (by omega), hov3.objs j (by simp only; omega), hov2.objs j hj]
  have hfold6 : ∀ j, j < h.next → F4.get j = h.fams.get j := fun j hj => by rw [hov4.fams j (by omega), hov3.fams j (by simp only; omega), hov2.fams j hj]
  have hov6 : Over h.next ⟨h.objs, h.fams, h.next, h.next⟩ ⟨O6, F4, n3 + 1 + 1, h.next⟩ := Over.mk' (by omega) hold6 hfold6
  have hv6 : RdS ⟨O6, F4, n3 + 1 + 1, h.next⟩ (.slice lo ws.length le lc) 5 (ws.map Wy.cells) := rdS_over hov6 hv0
  have hmap : putM c.owner c.am ([] : List (List Nat × Int)) = [(c.owner, c.am)] := rfl
  rw [hmap] at hm1
  (repeat (first | refine AOps.v rfl rfl rfl rfl rfl (by simp only [evS, cond_tt, cond_ff, absV, depthV, Nat.reduceEqDiff, Nat.reduceLT, ↓reduceIte, Option.map_some, Option.bind_some, List.toList_toArray]; rfl) ?_ | refine AOps.s rfl rfl rfl ?_ | refine AOps.u rfl rfl rfl rfl (by simp only [evS, cond_tt, cond_ff, absV, depthV, Nat.reduceEqDiff, Nat.reduceLT, ↓reduceIte, Option.map_some, Option.bind_some, List.toList_toArray]; rfl) ?_))
  refine AOps.nil ?_
  (repeat refine AWp.seq ?_); change AWp _ _ _ _ _; refine AWp.region ?_; (repeat (first | refine AOps.v rfl rfl rfl rfl rfl (by simp only [evS, cond_tt, cond_ff, absV, depthV, Nat.reduceEqDiff, Nat.reduceLT, ↓reduceIte, Option.map_some, Option.bind_some, List.toList_toArray]; rfl) ?_ | refine AOps.s rfl rfl rfl ?_ | refine AOps.u rfl rfl rfl rfl (by simp only [evS, cond_tt, cond_ff, absV, depthV, Nat.reduceEqDiff, Nat.reduceLT, ↓reduceIte, Option.map_some, Option.bind_some, List.toList_toArray]; rfl) ?_)); refine AOps.nil ?_
  (repeat refine AWp.seq ?_); change AWp _ _ _ _ _; refine AWp.region ?_; (repeat (first | refine AOps.v rfl rfl rfl rfl rfl (by simp only [evS, cond_tt, cond_ff, absV, depthV, Nat.reduceEqDiff, Nat.reduceLT, ↓reduceIte, Option.map_some, Option.bind_some, List.toList_toArray]; rfl) ?_ | refine AOps.s rfl rfl rfl ?_ | refine AOps.u rfl rfl rfl rfl (by simp only [evS, cond_tt, cond_ff, absV, depthV, Nat.reduceEqDiff, Nat.reduceLT, ↓reduceIte, Option.map_some, Option.bind_some, List.toList_toArray]; rfl) ?_))
  refine AOps.c rfl rfl rfl rfl rfl (by simp only [callOf_val, callW_fn, evS, cond_tt, cond_ff, absV, depthV, Nat.reduceEqDiff, Nat.reduceLT, ↓reduceIte, Option.map_some, Option.bind_some, List.toList_toArray]; rfl) rfl (Tryz.indexW ws (coversB p c) hlw (.slice lo ws.length le lc) _ [.ptr (some (n3, 0)), .ptr (some (h.next + 1, 0))] 67 rfl ⟨O6, F4, n3 + 1 + 1, h.next⟩ hv6 (fun w hw n lw hn => Tryz.covers p c hcd hpone w n3 (h.next + 1) ⟨O6, F4, n, lw⟩ h6p (by simp only at hn ⊢; omega) h6c (by simp only at hn ⊢; omega))) ?_
  rintro _ _ ⟨rfl, rfl⟩
  (repeat (first | refine AOps.v rfl rfl rfl rfl rfl (by simp only [evS, cond_tt, cond_ff, absV, depthV, Nat.reduceEqDiff, Nat.reduceLT, ↓reduceIte, Option.map_some, Option.bind_some, List.toList_toArray]; rfl) ?_ | refine AOps.s rfl rfl rfl ?_ | refine AOps.u rfl rfl rfl rfl (by simp only [evS, cond_tt, cond_ff, absV, depthV, Nat.reduceEqDiff, Nat.reduceLT, ↓reduceIte, Option.map_some, Option.bind_some, List.toList_toArray]; rfl) ?_))
  refine AOps.nil ?_
  have hdone : ∀ (O : Tr AO) (fx : Nat → AV) (N7 : Nat), n3 + 1 + 1 ≤ N7 → (∀ j, j < h.next → O.get j = h.objs.get j) → MapAt sAV intAV O (n3 + 1) (billOf ws (findP ps c.part) c) →
      Lv Tryz.prog Tryz.f27 h (DivQ ws ps c h) .ret ⟨upd (upd fx 6 (.map (some (n3 + 1)))) 7 (.bool is), 65, ⟨O, F4, N7, h.next⟩, []⟩ := by
    intro O fx N7 hN7 hO hm
    refine ⟨rfl, _, rfl, .tup [.map (some (n3 + 1)), .bool is], by rfl, .inl ⟨n3 + 1, ?_, ⟨by show h.next ≤ N7; omega, hO, hfold6, fun hl => minN_left hl⟩, by omega, by show n3 + 1 < N7; omega, hm⟩⟩
    rcases hpis with ⟨e1, e2⟩ | ⟨e1, e2⟩ <;> rw [e1, e2] <;> rfl
  rcases hpis with ⟨rfl, hf⟩ | ⟨rfl, hf⟩
  · -- the part is there
    cases hfi : ws.findIdx? (coversB p c) with
    | none =>
      have hidx : idxW ws (coversB p c) = -1 := by unfold idxW; rw [hfi]
      have hbill : billOf ws (findP ps c.part) c = [(c.owner, c.am)] := by
        rw [hf]
        have : ws.find? (coversB p c) = none := by
          rw [List.findIdx?_eq_none_iff] at hfi
          rw [List.find?_eq_none]
          intro w hw; rw [hfi w hw]; decide
        simp only [billOf, this]
      rw [hidx]
      have d1 : decide ((0 : Int) ≤ -1) = false := by decide
      (repeat refine AWp.seq ?_); change AWp _ _ _ _ _; refine AWp.region ?_; (repeat (first | refine AOps.v rfl rfl rfl rfl rfl (by simp only [evS, cond_tt, cond_ff, absV, depthV, Nat.reduceEqDiff, Nat.reduceLT, ↓reduceIte, Option.map_some, Option.bind_some, List.toList_toArray, d1]; rfl) ?_ | refine AOps.s rfl rfl rfl ?_ | refine AOps.u rfl rfl rfl rfl (by simp only [evS, cond_tt, cond_ff, absV, depthV, Nat.reduceEqDiff, Nat.reduceLT, ↓reduceIte, Option.map_some, Option.bind_some, List.toList_toArray, d1]; rfl) ?_)); refine AOps.nil ?_
      (repeat refine AWp.seq ?_); change AWp _ _ _ _ _; refine AWp.no (by rfl) (by rfl) (AWp.skip ?_)
      (repeat refine AWp.seq ?_); change AWp _ _ _ _ _; refine AWp.region ?_; (repeat (first | refine AOps.v rfl rfl rfl rfl rfl (by simp only [evS, cond_tt, cond_ff, absV, depthV, Nat.reduceEqDiff, Nat.reduceLT, ↓reduceIte, Option.map_some, Option.bind_some, List.toList_toArray]; rfl) ?_ | refine AOps.s rfl rfl rfl ?_ | refine AOps.u rfl rfl rfl rfl (by simp only [evS, cond_tt, cond_ff, absV, depthV, Nat.reduceEqDiff, Nat.reduceLT, ↓reduceIte, Option.map_some, Option.bind_some, List.toList_toArray]; rfl) ?_)); refine AOps.nil ?_
      refine AWp.ret ?_
      (try simp only [OutOf, Then, Round, NoGoto])
      exact hdone O6 _ _ (Nat.le_refl _) hold6 (by rw [hbill]; exact hm1)
    | some k =>
      have hidx : idxW ws (coversB p c) = (k : Int) := by unfold idxW; rw [hfi]
      obtain ⟨hlt, hcov, hbefore⟩ := List.findIdx?_eq_some_iff_getElem.1 hfi
      obtain ⟨w, hwk⟩ : ∃ w, ws[k]? = some w := ⟨ws[k], List.getElem?_eq_getElem hlt⟩
      have hwk' : ws[k] = w := by rw [List.getElem?_eq_getElem hlt] at hwk; exact Option.some.inj hwk
      have hwok : w.ok = true := List.all_eq_true.1 hok'.1 w (List.mem_of_getElem? hwk)
      obtain ⟨hpct, hamr, hpr⟩ := pct_of_ok hwok hok'.2
      obtain ⟨hn0, hn1⟩ := pct_bnd hamr hpr
      have hfind : ws.find? (coversB p c) = some w := by
        rw [List.find?_eq_some_iff_getElem]
        exact ⟨by rw [← hwk']; exact hcov, k, hlt, hwk', fun j hj => by simpa using hbefore j hj⟩
      have hbill : billOf ws (findP ps c.part) c = putM w.maker (getM 0 w.maker (putM c.owner (c.am - pctN c.am w.pct) [(c.owner, c.am)]) + pctN c.am w.pct) (putM c.owner (c.am - pctN c.am w.pct) [(c.owner, c.am)]) := by
        rw [hf]; simp only [billOf, hfind]
      have hcv : CVok Tryz.prog (cvS [servF 70 (fun args _ => args = [.int .i64 c.am, .int .i64 w.pct]) (fun _ => .tup [.int .i64 (pctN c.am w.pct), .int .i64 0])]) := cvS_ok (servF_ok (fun args h0 hp => by
        rw [hp]
        have := Tryz.percent c.am w.pct h0
        rw [hpct] at this
        exact this) servOk_nil)
      obtain ⟨id, off, cap', cs, hv', hid, hrow0, hcl, hch, hcell⟩ := hv0.open (i := k) (by rw [List.length_map]; exact hlt)
      rw [List.length_map] at hv'
      cases hv'
      simp only at hrow0 hid
      have hrow : rowO O6 id = some cs := rowO_of hrow0 (hold6 id hid)
      have kp := hcell _ _ (rowsW_get ws hwk) 4 (by omega)
      have km := hcell _ _ (rowsW_get ws hwk) 1 (by omega)
      rw [show w.cells[4]? = some (.int .i64 w.pct) from rfl] at kp
      rw [show w.cells[1]? = some (.str w.maker) from rfl] at km
      rw [hidx]
      have d1 : decide ((0 : Int) ≤ (k : Int)) = true := by simp
      (repeat refine AWp.seq ?_); change AWp _ _ _ _ _; refine AWp.region ?_; (repeat (first | refine AOps.v rfl rfl rfl rfl rfl (by simp only [evS, cond_tt, cond_ff, absV, depthV, Nat.reduceEqDiff, Nat.reduceLT, ↓reduceIte, Option.map_some, Option.bind_some, List.toList_toArray, d1]; rfl) ?_ | refine AOps.s rfl rfl rfl ?_ | refine AOps.u rfl rfl rfl rfl (by simp only [evS, cond_tt, cond_ff, absV, depthV, Nat.reduceEqDiff, Nat.reduceLT, ↓reduceIte, Option.map_some, Option.bind_some, List.toList_toArray, d1]; rfl) ?_)); refine AOps.nil ?_
      (repeat refine AWp.seq ?_); change AWp _ _ _ _ _; refine AWp.yes (by rfl) (by rfl) ?_
      (repeat refine AWp.seq ?_)
      refine AWp.draws (cv := cvS [servF 70 (fun args _ => args = [.int .i64 c.am, .int .i64 w.pct]) (fun _ => .tup [.int .i64 (pctN c.am w.pct), .int .i64 0])]) hcv rfl (L := 13) rfl (ms := [0, 1, 0, 0, 12, 28, 60, 127, 255, 511, 511, 1023, 4095]) (by kernel_rfl) (by kernel_rfl) ?_
      (repeat (first | refine DRun.r rfl rfl rfl rfl rfl rfl (by simp only [evS, cond_tt, cond_ff, absV, depthV, Nat.reduceEqDiff, Nat.reduceLT, ↓reduceIte, Option.map_some, Option.bind_some, List.toList_toArray, addX_nil, updo_some, updo_none, orU_some, List.filter_nil, Tryz.tw, H.lay, Nat.zero_add, Nat.add_zero, ↓reduceIte, List.getElem?_cons_zero, List.getElem?_cons_succ, iaddr_slice Tryz.underlying22 Tryz.size59 hlt, hrow, kp, h6c, q3]; rfl) ?_ | refine DRun.s rfl rfl rfl ?_))
      refine DRun.k rfl rfl rfl rfl rfl rfl (by simp only [callOf_val, callW_fn, evS, cond_tt, cond_ff, absV, depthV, Nat.reduceEqDiff, Nat.reduceLT, ↓reduceIte, Option.map_some, Option.bind_some, List.toList_toArray]; rfl) rfl (cvS_servF rfl) ?_
      (repeat (first | refine DRun.r rfl rfl rfl rfl rfl rfl (by simp only [evS, cond_tt, cond_ff, absV, depthV, Nat.reduceEqDiff, Nat.reduceLT, ↓reduceIte, Option.map_some, Option.bind_some, List.toList_toArray, addX_nil, updo_some, updo_none, orU_some, List.filter_nil]; rfl) ?_ | refine DRun.s rfl rfl rfl ?_))
      refine DRun.nil ⟨?_, ?_⟩
      · (intro y hy; simp only [List.nil_append, List.cons_append, List.mem_cons, List.not_mem_nil, or_false] at hy; (repeat' (rcases hy with hy | hy)) <;> (try subst hy) <;> refine ⟨by first | exact eqTop_str _ _ | exact eqTop_int _ _ _ | exact eqTop_bool _ _ | exact eqTop_ptr _ _ _ | exact eqTop_map _ _ | exact eqTop_slice _ _ _ _ _ _ | (simp only [eqTop_agg, eqTop_tup, eqTop, all2, eqL_eq, eqI_eq, kEq, decide_true, Bool.and_self, Bool.and_true]; done), ?_⟩ <;> (simp only [phOk]; refine ⟨?_, ?_, trivial⟩) <;> first | exact trivial | exact Or.inl rfl | exact Or.inr ⟨_, by simp only [evS, cond_tt, cond_ff, absV, depthV, Nat.reduceEqDiff, Nat.reduceLT, ↓reduceIte, Option.map_some, Option.bind_some, List.toList_toArray, addX_nil, updo_some, updo_none, orU_some, List.filter_nil, Tryz.tw, H.lay, Nat.zero_add, Nat.add_zero, ↓reduceIte, List.getElem?_cons_zero, List.getElem?_cons_succ, iaddr_slice Tryz.underlying22 Tryz.size59 hlt, hrow, kp, h6c, q3]; rfl⟩)
      simp only [List.filter_nil, addX_nil, updo_some, updo_none, orU_some]
      show AWp _ _ _ _ _
      have hg0 : getM (0 : Int) c.owner [(c.owner, c.am)] = c.am := by simp [getM]
      have hlk := look_map (P := Tryz.prog) (h := ⟨O6, F4, n3 + 1 + 1 + 13, h.next⟩) (u0 := (0 : Int)) Tryz.underlying94 Tryz.keysA (by exact Tryz.zero3') hm1 c.owner false
      rw [hg0] at hlk
      simp only [cond_ff] at hlk
      have hlk : lookupA Tryz.prog ⟨O6, F4, n3 + 1 + 1 + 13, h.next⟩ 94 (.map (some (n3 + 1))) (.str c.owner) false = some (.int .i64 c.am) := hlk
      (repeat refine AWp.seq ?_)
      refine AWp.region ?_
      (repeat (first | refine AOps.v rfl rfl rfl rfl rfl (by simp only [evS, cond_tt, cond_ff, absV, depthV, Nat.reduceEqDiff, Nat.reduceLT, ↓reduceIte, Option.map_some, Option.bind_some, List.toList_toArray, Tryz.tw, H.lay, Nat.zero_add, Nat.add_zero, ↓reduceIte, List.getElem?_cons_zero, List.getElem?_cons_succ, h6c, q1, op_lookup, hlk, bin_sub (show -9223372036854775808 ≤ c.am - pctN c.am w.pct ∧ c.am - pctN c.am w.pct ≤ 9223372036854775807 from ⟨by omega, by omega⟩)]; rfl) ?_ | refine AOps.s rfl rfl rfl ?_ | refine AOps.u rfl rfl rfl rfl (by simp only [evS, cond_tt, cond_ff, absV, depthV, Nat.reduceEqDiff, Nat.reduceLT, ↓reduceIte, Option.map_some, Option.bind_some, List.toList_toArray, Tryz.tw, H.lay, Nat.zero_add, Nat.add_zero, ↓reduceIte, List.getElem?_cons_zero, List.getElem?_cons_succ, h6c, q1, op_lookup, hlk, bin_sub (show -9223372036854775808 ≤ c.am - pctN c.am w.pct ∧ c.am - pctN c.am w.pct ≤ 9223372036854775807 from ⟨by omega, by omega⟩)]; rfl) ?_))
      refine AOps.mu (kv := sAV) (uv := intAV) (k := c.owner) (v := c.am - pctN c.am w.pct) rfl (.inr rfl) rfl rfl (by simp only [evS, cond_tt, cond_ff, absV, depthV, Nat.reduceEqDiff, Nat.reduceLT, ↓reduceIte, Option.map_some, Option.bind_some, List.toList_toArray]) (by simp only [evS, cond_tt, cond_ff, absV, depthV, Nat.reduceEqDiff, Nat.reduceLT, ↓reduceIte, Option.map_some, Option.bind_some, List.toList_toArray]) (by simp only [evS, cond_tt, cond_ff, absV, depthV, Nat.reduceEqDiff, Nat.reduceLT, ↓reduceIte, Option.map_some, Option.bind_some, List.toList_toArray]; try rfl) Tryz.underlying94 Tryz.keysA hm1 (minN_left (show h.next ≤ n3 + 1 by omega)) ?_
      intro O7 hr7 hm7
      refine AOps.nil ?_
      have hrow7 : rowO O7 id = some cs := rowO_of hrow (hr7 id (by omega))
      have hlk7 := look_map (P := Tryz.prog) (h := ⟨O7, F4, n3 + 1 + 1 + 13, h.next⟩) (u0 := (0 : Int)) Tryz.underlying94 Tryz.keysA (by exact Tryz.zero3') hm7 w.maker false
      simp only [cond_ff] at hlk7
      have hlk7 : lookupA Tryz.prog ⟨O7, F4, n3 + 1 + 1 + 13, h.next⟩ 94 (.map (some (n3 + 1))) (.str w.maker) false = some (.int .i64 (getM (0 : Int) w.maker (putM c.owner (c.am - pctN c.am w.pct) [(c.owner, c.am)]))) := hlk7
      have hgm : 0 ≤ getM (0 : Int) w.maker (putM c.owner (c.am - pctN c.am w.pct) [(c.owner, c.am)]) ∧ getM (0 : Int) w.maker (putM c.owner (c.am - pctN c.am w.pct) [(c.owner, c.am)]) ≤ 1000000000000 := by
        rw [getM_put]
        split
        · omega
        · simp only [getM]; split <;> omega
      generalize hgg : getM (0 : Int) w.maker (putM c.owner (c.am - pctN c.am w.pct) [(c.owner, c.am)]) = gg at hgm hlk7 hbill
      (repeat refine AWp.seq ?_)
      refine AWp.region ?_
      (repeat (first | refine AOps.v rfl rfl rfl rfl rfl (by simp only [evS, cond_tt, cond_ff, absV, depthV, Nat.reduceEqDiff, Nat.reduceLT, ↓reduceIte, Option.map_some, Option.bind_some, List.toList_toArray, Tryz.tw, H.lay, Nat.zero_add, Nat.add_zero, ↓reduceIte, List.getElem?_cons_zero, List.getElem?_cons_succ, iaddr_slice Tryz.underlying22 Tryz.size59 hlt, hrow7, km, op_lookup, hlk7, bin_add (show -9223372036854775808 ≤ gg + pctN c.am w.pct ∧ gg + pctN c.am w.pct ≤ 9223372036854775807 from ⟨by omega, by omega⟩)]; rfl) ?_ | refine AOps.s rfl rfl rfl ?_ | refine AOps.u rfl rfl rfl rfl (by simp only [evS, cond_tt, cond_ff, absV, depthV, Nat.reduceEqDiff, Nat.reduceLT, ↓reduceIte, Option.map_some, Option.bind_some, List.toList_toArray, Tryz.tw, H.lay, Nat.zero_add, Nat.add_zero, ↓reduceIte, List.getElem?_cons_zero, List.getElem?_cons_succ, iaddr_slice Tryz.underlying22 Tryz.size59 hlt, hrow7, km, op_lookup, hlk7, bin_add (show -9223372036854775808 ≤ gg + pctN c.am w.pct ∧ gg + pctN c.am w.pct ≤ 9223372036854775807 from ⟨by omega, by omega⟩)]; rfl) ?_))
      refine AOps.mu (kv := sAV) (uv := intAV) (k := w.maker) (v := gg + pctN c.am w.pct) rfl (.inr rfl) rfl rfl (by simp only [evS, cond_tt, cond_ff, absV, depthV, Nat.reduceEqDiff, Nat.reduceLT, ↓reduceIte, Option.map_some, Option.bind_some, List.toList_toArray]) (by simp only [evS, cond_tt, cond_ff, absV, depthV, Nat.reduceEqDiff, Nat.reduceLT, ↓reduceIte, Option.map_some, Option.bind_some, List.toList_toArray]) (by simp only [evS, cond_tt, cond_ff, absV, depthV, Nat.reduceEqDiff, Nat.reduceLT, ↓reduceIte, Option.map_some, Option.bind_some, List.toList_toArray]; try rfl) Tryz.underlying94 Tryz.keysA hm7 (minN_left (show h.next ≤ n3 + 1 by omega)) ?_
      intro O8 hr8 hm8
      refine AOps.nil ?_
      show AWp _ _ _ _ _
      (repeat refine AWp.seq ?_); change AWp _ _ _ _ _; refine AWp.region ?_; (repeat (first | refine AOps.v rfl rfl rfl rfl rfl (by simp only [evS, cond_tt, cond_ff, absV, depthV, Nat.reduceEqDiff, Nat.reduceLT, ↓reduceIte, Option.map_some, Option.bind_some, List.toList_toArray]; rfl) ?_ | refine AOps.s rfl rfl rfl ?_ | refine AOps.u rfl rfl rfl rfl (by simp only [evS, cond_tt, cond_ff, absV, depthV, Nat.reduceEqDiff, Nat.reduceLT, ↓reduceIte, Option.map_some, Option.bind_some, List.toList_toArray]; rfl) ?_)); refine AOps.nil ?_
      refine AWp.ret ?_
      (try simp only [OutOf, Then, Round, NoGoto])
      exact hdone O8 _ _ (by omega) (fun j hj => by rw [hr8 j (by omega), hr7 j (by omega)]; exact hold6 j hj) (by rw [hbill]; exact hm8)
  · -- it is not
    have hbill : billOf ws (findP ps c.part) c = [(c.owner, c.am)] := by rw [hf]; rfl
    (repeat refine AWp.seq ?_); change AWp _ _ _ _ _; refine AWp.region ?_; (repeat (first | refine AOps.v rfl rfl rfl rfl rfl (by simp only [evS, cond_tt, cond_ff, absV, depthV, Nat.reduceEqDiff, Nat.reduceLT, ↓reduceIte, Option.map_some, Option.bind_some, List.toList_toArray]; rfl) ?_ | refine AOps.s rfl rfl rfl ?_ | refine AOps.u rfl rfl rfl rfl (by simp only [evS, cond_tt, cond_ff, absV, depthV, Nat.reduceEqDiff, Nat.reduceLT, ↓reduceIte, Option.map_some, Option.bind_some, List.toList_toArray]; rfl) ?_)); refine AOps.nil ?_
    (repeat refine AWp.seq ?_); change AWp _ _ _ _ _; refine AWp.no (by rfl) (by rfl) (AWp.skip ?_)
    (repeat refine AWp.seq ?_); change AWp _ _ _ _ _; refine AWp.region ?_; (repeat (first | refine AOps.v rfl rfl rfl rfl rfl (by simp only [evS, cond_tt, cond_ff, absV, depthV, Nat.reduceEqDiff, Nat.reduceLT, ↓reduceIte, Option.map_some, Option.bind_some, List.toList_toArray]; rfl) ?_ | refine AOps.s rfl rfl rfl ?_ | refine AOps.u rfl rfl rfl rfl (by simp only [evS, cond_tt, cond_ff, absV, depthV, Nat.reduceEqDiff, Nat.reduceLT, ↓reduceIte, Option.map_some, Option.bind_some, List.toList_toArray]; rfl) ?_)); refine AOps.nil ?_
    refine AWp.ret ?_
    (try simp only [OutOf, Then, Round, NoGoto])
    exact hdone O6 _ _ (Nat.le_refl _) hold6 (by rw [hbill]; exact hm1)

end Go.Proofs

/- Seat r1: the list of a bill; cost.Shares. No conditions beyond those that each theorem states. -/
namespace Go.Proofs
open Go.Ev
set_option maxRecDepth 100000

noncomputable def backZ (h : H) (ts : List Sh) : AV × H := if ts = [] then (.slice none 0 0 (some 0), h) else (.slice (some (h.next, 0)) ts.length 2 none, layAll [(ts.map Sh.cells).flatten] h)

theorem Tryz.info65z : Tryz.prog.info? 65 = some Tryz.t65 := by kernel_rfl
theorem Tryz.zero65z : zeroA Tryz.prog 65 = some (.agg [.str [], .int .i64 0]) := by kernel_rfl
theorem build36z (a : List Nat) (n : Int) : buildA Tryz.prog 65 [(0, .str a), (1, .int .i64 n)] = some (.agg (Sh.mk a n).cells) := by kernel_rfl
theorem buildS31z (a : List Nat) (n : Int) : buildSliceA Tryz.prog 31 1 [(0, .agg (Sh.mk a n).cells)] = some (2, (Sh.mk a n).cells) := by kernel_rfl
theorem plain_cellsZ (t : Sh) : t.cells.all (plainA 4) = true := rfl

theorem Tryz.keys (m : Nat) (h : H) : ACalls Tryz.prog (.func 72) [.map (some m)] h (fun v h' => ∃ bx, v = .fn (.func 135) [] [.ptr (some (bx, 0))] ∧ Over h.next h h' ∧ rowO h'.objs bx = some [.map (some m)] ∧ bx < h'.next) := by
  refine ACalls.body (n := 4) Tryz.nogo Tryz.func72 rfl rfl ?_
  rw [argF1]
  (repeat refine AWp.seq ?_); change AWp _ _ _ _ _; refine AWp.region ?_; (repeat (first | refine AOps.v rfl rfl rfl rfl rfl (by simp only [evS, cond_tt, cond_ff, absV, depthV, Nat.reduceEqDiff, Nat.reduceLT, ↓reduceIte, Option.map_some, Option.bind_some, List.toList_toArray, op_box, H.lay]; rfl) ?_ | refine AOps.s rfl rfl rfl ?_ | refine AOps.u rfl rfl rfl rfl (by simp only [evS, cond_tt, cond_ff, absV, depthV, Nat.reduceEqDiff, Nat.reduceLT, ↓reduceIte, Option.map_some, Option.bind_some, List.toList_toArray, op_box, H.lay]; rfl) ?_)); refine AOps.nil ?_
  (repeat refine AWp.seq ?_)
  refine AWp.region ?_
  (repeat (first | refine AOps.v rfl rfl rfl rfl rfl (by simp only [evS, cond_tt, cond_ff, absV, depthV, Nat.reduceEqDiff, Nat.reduceLT, ↓reduceIte, Option.map_some, Option.bind_some, List.toList_toArray]; rfl) ?_ | refine AOps.s rfl rfl rfl ?_ | refine AOps.u rfl rfl rfl rfl (by simp only [evS, cond_tt, cond_ff, absV, depthV, Nat.reduceEqDiff, Nat.reduceLT, ↓reduceIte, Option.map_some, Option.bind_some, List.toList_toArray]; rfl) ?_))
  refine AOps.nil ?_
  refine AWp.ret ?_
  (try simp only [OutOf, Then, Round, NoGoto])
  refine ⟨rfl, _, rfl, .fn (.func 135) [] [.ptr (some (h.next, 0))], by rfl, .inl ⟨h.next, rfl, ⟨by show h.next ≤ h.next + 1; omega, fun j hj => ?_, fun j hj => ?_, fun hl => minN_left hl⟩, ?_, ?_⟩⟩
  · show (Tr.put h.objs h.next _).get j = _
    rw [put_other _ _ (by omega)]
  · show (Tr.put h.fams h.next _).get j = _
    rw [put_other _ _ (by omega)]
  · show rowO (Tr.put h.objs h.next _) h.next = _
    rw [rowO_put, if_pos rfl]; rfl
  · show h.next < h.next + 1; omega

/-- The shares of a bill, in the order of the parties. -/
def shL (ml : List (List Nat × Int)) (ks : List (List Nat)) : List Sh := (ks.filter fun k => decide (0 < getM 0 k ml)).map fun k => ⟨k, getM 0 k ml⟩
structure ListOk (ml : List (List Nat × Int)) (ss : List Sh) : Prop where
  ex : ∃ ks : List (List Nat), ks.Perm (ml.map (·.1)) ∧ SortedK ks ∧ ss = shL ml ks

theorem shL_snoc (ml : List (List Nat × Int)) (ks : List (List Nat)) (k : List Nat) : shL ml (ks ++ [k]) = if 0 < getM 0 k ml then shL ml ks ++ [⟨k, getM 0 k ml⟩] else shL ml ks := by
  unfold shL
  rw [List.filter_append]
  by_cases h : 0 < getM 0 k ml <;> simp [h]

theorem shL_len (ml : List (List Nat × Int)) (ks : List (List Nat)) : (shL ml ks).length ≤ ks.length := by
  unfold shL; rw [List.length_map]; exact List.length_filter_le _ _

theorem sRows_get (ks : List (List Nat)) {i : Nat} {k : List Nat} (h : ks[i]? = some k) : (ks.map sRow)[i]? = some (sRow k) := by rw [List.getElem?_map, h]; rfl

set_option maxHeartbeats 4000000 in
theorem Tryz.blist (ml : List (List Nat × Int)) (m : Nat) (hml : ml.length ≤ 100000) (h : H) (hm : MapAt sAV intAV h.objs m ml) (hmn : m < h.next) :
    ACalls Tryz.prog (.func 28) [.map (some m)] h (fun r h' => ∃ ss, ListOk ml ss ∧ r = (backZ h ss).1 ∧ h' = (backZ h ss).2) := by
  refine ACalls.body (n := 28) Tryz.nogo Tryz.func28 rfl rfl ?_
  rw [argF1]
  (repeat refine AWp.seq ?_); change AWp _ _ _ _ _; refine AWp.region ?_; (repeat (first | refine AOps.v rfl rfl rfl rfl rfl (by simp only [evS, cond_tt, cond_ff, absV, depthV, Nat.reduceEqDiff, Nat.reduceLT, ↓reduceIte, Option.map_some, Option.bind_some, List.toList_toArray]; rfl) ?_ | refine AOps.s rfl rfl rfl ?_ | refine AOps.u rfl rfl rfl rfl (by simp only [evS, cond_tt, cond_ff, absV, depthV, Nat.reduceEqDiff, Nat.reduceLT, ↓reduceIte, Option.map_some, Option.bind_some, List.toList_toArray]; rfl) ?_)); refine AOps.nil ?_
  (repeat refine AWp.seq ?_); change AWp _ _ _ _ _; refine AWp.region ?_; (repeat (first | refine AOps.v rfl rfl rfl rfl rfl (by simp only [evS, cond_tt, cond_ff, absV, depthV, Nat.reduceEqDiff, Nat.reduceLT, ↓reduceIte, Option.map_some, Option.bind_some, List.toList_toArray]; rfl) ?_ | refine AOps.s rfl rfl rfl ?_ | refine AOps.u rfl rfl rfl rfl (by simp only [evS, cond_tt, cond_ff, absV, depthV, Nat.reduceEqDiff, Nat.reduceLT, ↓reduceIte, Option.map_some, Option.bind_some, List.toList_toArray]; rfl) ?_)); refine AOps.nil ?_
  (repeat refine AWp.seq ?_); change AWp _ _ _ _ _; refine AWp.region ?_; (repeat (first | refine AOps.v rfl rfl rfl rfl rfl (by simp only [evS, cond_tt, cond_ff, absV, depthV, Nat.reduceEqDiff, Nat.reduceLT, ↓reduceIte, Option.map_some, Option.bind_some, List.toList_toArray]; rfl) ?_ | refine AOps.s rfl rfl rfl ?_ | refine AOps.u rfl rfl rfl rfl (by simp only [evS, cond_tt, cond_ff, absV, depthV, Nat.reduceEqDiff, Nat.reduceLT, ↓reduceIte, Option.map_some, Option.bind_some, List.toList_toArray]; rfl) ?_))
  refine AOps.c rfl rfl rfl rfl rfl (by simp only [callOf_val, callW_fn, evS, cond_tt, cond_ff, absV, depthV, Nat.reduceEqDiff, Nat.reduceLT, ↓reduceIte, Option.map_some, Option.bind_some, List.toList_toArray]; rfl) rfl (Tryz.keys m ⟨h.objs, h.fams, h.next, h.next⟩) ?_
  rintro _ ⟨o1, f1, n1, l1⟩ ⟨bx, rfl, hov1, hb1, hbx1⟩
  have hl1 : l1 = h.next := hov1.low (Nat.le_refl _)
  subst hl1
  simp only at hb1 hbx1
  have hn1 : h.next ≤ n1 := hov1.next
  have hm1 : MapAt sAV intAV o1 m ml := (hov1.objs m hmn).trans hm
  refine AOps.c rfl rfl rfl rfl rfl (by simp only [callOf_val, callW_fn, evS, cond_tt, cond_ff, absV, depthV, Nat.reduceEqDiff, Nat.reduceLT, ↓reduceIte, Option.map_some, Option.bind_some, List.toList_toArray]; rfl) rfl (Tryz.sorted ml m bx ⟨o1, f1, n1, h.next⟩ hb1 hbx1 hm1 (by show m < n1; omega) hml) ?_
  rintro kv ⟨o2, f2, n2, l2⟩ ⟨ks, hperm, hsort, hov2, hout2⟩
  have hl2 : l2 = h.next := hov2.low (show h.next ≤ n1 by omega)
  subst hl2
  have hn2 : n1 ≤ n2 := hov2.next
  have hrd2 : RdS ⟨o2, f2, n2, h.next⟩ kv 1 (ks.map sRow) := OutC.rd (.inl hout2)
  obtain ⟨lo, le, lc, rfl⟩ := hrd2.len
  rw [List.length_map] at hrd2 ⊢
  have hm2 : MapAt sAV intAV o2 m ml := (hov2.objs m (show m < n1 by omega)).trans hm1
  (repeat (first | refine AOps.v rfl rfl rfl rfl rfl (by simp only [evS, cond_tt, cond_ff, absV, depthV, Nat.reduceEqDiff, Nat.reduceLT, ↓reduceIte, Option.map_some, Option.bind_some, List.toList_toArray, Tryz.tw, H.lay, Nat.zero_add, Nat.add_zero, ↓reduceIte, List.getElem?_cons_zero, List.getElem?_cons_succ]; rfl) ?_ | refine AOps.s rfl rfl rfl ?_ | refine AOps.u rfl rfl rfl rfl (by simp only [evS, cond_tt, cond_ff, absV, depthV, Nat.reduceEqDiff, Nat.reduceLT, ↓reduceIte, Option.map_some, Option.bind_some, List.toList_toArray, Tryz.tw, H.lay, Nat.zero_add, Nat.add_zero, ↓reduceIte, List.getElem?_cons_zero, List.getElem?_cons_succ]; rfl) ?_))
  refine AOps.nil ?_
  have hklen : ks.length = ml.length := by rw [hperm.length_eq, List.length_map]
  refine AWp.block (AWp.loop (fun q st => ∃ (k kn : Nat) (o : Tr AO) (fm : Tr (Nat × Nat)) (out : AV), k ≤ ks.length ∧ q = ks.length - k ∧ Over n2 ⟨o2, f2, n2, h.next⟩ ⟨o, fm, kn, h.next⟩ ∧ OutAt n2 ⟨o, fm, kn, h.next⟩ out 2 ((shL ml (ks.take k)).map Sh.cells) ∧
    Fr st [(0, .map (some m)), (3, out), (8, .slice lo ks.length le lc), (9, .int .i64 (ks.length : Int)), (10, .int .i64 (k : Int))] 28 ⟨o, fm, kn, h.next⟩ []) ks.length ?_ ?_)
  · exact ⟨0, n2, o2, f2, .slice none 0 0 (some 0), by omega, by omega, Over.refl _ _, ⟨fun r hr => (List.not_mem_nil hr).elim, .inl ⟨rfl, rfl⟩⟩, rfl, rfl, rfl, rfl, rfl, rfl, rfl, rfl, trivial⟩
  rintro q st ⟨k, kn, o, fm, out, hk, rfl, hov, hout, hF⟩
  obtain ⟨f, rfl⟩ := hF.open
  clear hF
  simp only [updL]
  have hkn : n2 ≤ kn := hov.next
  have hmk : MapAt sAV intAV o m ml := (hov.objs m (show m < n2 by omega)).trans hm2
  by_cases hlt : k < ks.length
  · have c1 : decide ((k : Int) < (ks.length : Int)) = true := by simp only [decide_eq_true_eq]; omega
    obtain ⟨key, hkey⟩ : ∃ t, ks[k]? = some t := ⟨ks[k], List.getElem?_eq_getElem hlt⟩
    obtain ⟨id, off, cap, cs, hv', hid, hrow0, hcl, hch, hcell⟩ := hrd2.open (i := k) (by rw [List.length_map]; exact hlt)
    rw [List.length_map] at hv'
    cases hv'
    simp only at hrow0 hid
    have k0 := hcell _ _ (sRows_get ks hkey) 0 (by omega)
    rw [show (sRow key)[0]? = some (.str key) from rfl, Nat.add_zero] at k0
    have hrow : rowO o id = some cs := rowO_of hrow0 (hov.objs id hid)
    have hlk : lookupA Tryz.prog ⟨o, fm, kn, h.next⟩ 94 (.map (some m)) (.str key) false = some (.int .i64 (getM 0 key ml)) := by
      have := look_map (P := Tryz.prog) (h := ⟨o, fm, kn, h.next⟩) (u0 := (0 : Int)) Tryz.underlying94 Tryz.keysA (by exact Tryz.zero3') hmk key false
      simp only [cond_ff] at this
      exact this
    have hsn := shL_snoc ml (ks.take k) key
    rw [← take_snoc hkey] at hsn
    (repeat refine AWp.seq ?_); change AWp _ _ _ _ _; refine AWp.region ?_; (repeat (first | refine AOps.v rfl rfl rfl rfl rfl (by simp only [evS, cond_tt, cond_ff, absV, depthV, Nat.reduceEqDiff, Nat.reduceLT, ↓reduceIte, Option.map_some, Option.bind_some, List.toList_toArray, c1]; rfl) ?_ | refine AOps.s rfl rfl rfl ?_ | refine AOps.u rfl rfl rfl rfl (by simp only [evS, cond_tt, cond_ff, absV, depthV, Nat.reduceEqDiff, Nat.reduceLT, ↓reduceIte, Option.map_some, Option.bind_some, List.toList_toArray, c1]; rfl) ?_)); refine AOps.nil ?_
    (repeat refine AWp.seq ?_); change AWp _ _ _ _ _; refine AWp.yes (by rfl) (by rfl) (AWp.skip ?_)
    (repeat refine AWp.seq ?_)
    refine AWp.block ?_
    (repeat refine AWp.seq ?_); change AWp _ _ _ _ _; refine AWp.region ?_; (repeat (first | refine AOps.v rfl rfl rfl rfl rfl (by simp only [evS, cond_tt, cond_ff, absV, depthV, Nat.reduceEqDiff, Nat.reduceLT, ↓reduceIte, Option.map_some, Option.bind_some, List.toList_toArray, Tryz.tw, H.lay, Nat.zero_add, Nat.add_zero, ↓reduceIte, List.getElem?_cons_zero, List.getElem?_cons_succ, iaddr_slice Tryz.underlying57 Tryz.size9 hlt, hrow, k0]; rfl) ?_ | refine AOps.s rfl rfl rfl ?_ | refine AOps.u rfl rfl rfl rfl (by simp only [evS, cond_tt, cond_ff, absV, depthV, Nat.reduceEqDiff, Nat.reduceLT, ↓reduceIte, Option.map_some, Option.bind_some, List.toList_toArray, Tryz.tw, H.lay, Nat.zero_add, Nat.add_zero, ↓reduceIte, List.getElem?_cons_zero, List.getElem?_cons_succ, iaddr_slice Tryz.underlying57 Tryz.size9 hlt, hrow, k0]; rfl) ?_)); refine AOps.nil ?_
    cases e1 : decide (0 < getM 0 key ml)
    · rw [if_neg (by simpa using e1)] at hsn
      (repeat refine AWp.seq ?_); change AWp _ _ _ _ _; refine AWp.region ?_; (repeat (first | refine AOps.v rfl rfl rfl rfl rfl (by simp only [evS, cond_tt, cond_ff, absV, depthV, Nat.reduceEqDiff, Nat.reduceLT, ↓reduceIte, Option.map_some, Option.bind_some, List.toList_toArray, op_lookup, hlk, e1]; rfl) ?_ | refine AOps.s rfl rfl rfl ?_ | refine AOps.u rfl rfl rfl rfl (by simp only [evS, cond_tt, cond_ff, absV, depthV, Nat.reduceEqDiff, Nat.reduceLT, ↓reduceIte, Option.map_some, Option.bind_some, List.toList_toArray, op_lookup, hlk, e1]; rfl) ?_)); refine AOps.nil ?_
      (repeat refine AWp.seq ?_); change AWp _ _ _ _ _; refine AWp.no (by rfl) (by rfl) (AWp.skip ?_)
      (repeat refine AWp.seq ?_); change AWp _ _ _ _ _; refine AWp.region ?_; (repeat (first | refine AOps.v rfl rfl rfl rfl rfl (by simp only [evS, cond_tt, cond_ff, absV, depthV, Nat.reduceEqDiff, Nat.reduceLT, ↓reduceIte, Option.map_some, Option.bind_some, List.toList_toArray, bin_add (show -9223372036854775808 ≤ (k : Int) + 1 ∧ (k : Int) + 1 ≤ 9223372036854775807 from ⟨by omega, by omega⟩)]; rfl) ?_ | refine AOps.s rfl rfl rfl ?_ | refine AOps.u rfl rfl rfl rfl (by simp only [evS, cond_tt, cond_ff, absV, depthV, Nat.reduceEqDiff, Nat.reduceLT, ↓reduceIte, Option.map_some, Option.bind_some, List.toList_toArray, bin_add (show -9223372036854775808 ≤ (k : Int) + 1 ∧ (k : Int) + 1 ≤ 9223372036854775807 from ⟨by omega, by omega⟩)]; rfl) ?_)); refine AOps.nil ?_
      refine ⟨ks.length - (k + 1), by omega, k + 1, kn, o, fm, out, by omega, rfl, hov, by rw [hsn]; exact hout, rfl, rfl, rfl, ?_⟩
      simp only [Has, upd_eq]
      exact ⟨rfl, rfl, rfl, rfl, rfl, trivial⟩
    · rw [if_pos (by simpa using e1)] at hsn
      have hlen := shL_len ml (ks.take k)
      rw [List.length_take] at hlen
      (repeat refine AWp.seq ?_); change AWp _ _ _ _ _; refine AWp.region ?_; (repeat (first | refine AOps.v rfl rfl rfl rfl rfl (by simp only [evS, cond_tt, cond_ff, absV, depthV, Nat.reduceEqDiff, Nat.reduceLT, ↓reduceIte, Option.map_some, Option.bind_some, List.toList_toArray, op_lookup, hlk, e1]; rfl) ?_ | refine AOps.s rfl rfl rfl ?_ | refine AOps.u rfl rfl rfl rfl (by simp only [evS, cond_tt, cond_ff, absV, depthV, Nat.reduceEqDiff, Nat.reduceLT, ↓reduceIte, Option.map_some, Option.bind_some, List.toList_toArray, op_lookup, hlk, e1]; rfl) ?_)); refine AOps.nil ?_
      (repeat refine AWp.seq ?_); change AWp _ _ _ _ _; refine AWp.yes (by rfl) (by rfl) ?_
      have hb1 : buildA Tryz.prog 65 [(0, .str key), (1, .int .i64 (getM 0 key ml))] = some (.agg (Sh.mk key (getM 0 key ml)).cells) := build36z _ _
      have hb2 : buildSliceA Tryz.prog 31 1 [(0, .agg (Sh.mk key (getM 0 key ml)).cells)] = some (2, (Sh.mk key (getM 0 key ml)).cells) := buildS31z _ _
      generalize Sh.mk key (getM 0 key ml) = sh at hsn hb1 hb2
      have hout4 : OutAt n2 ⟨Tr.put o kn (some (.cells sh.cells kn)), Tr.put fm kn (some (kn, kn)), kn + 1, h.next⟩ out 2 ((shL ml (ks.take k)).map Sh.cells) :=
        hout.keep (fun j h1 h2 => by simp only at h2; rw [put_other _ _ (by omega)]) (fun j h1 h2 => by simp only at h2; rw [put_other _ _ (by omega)]) (Nat.le_succ _)
      obtain ⟨v', ⟨o6, f6, n6, l6⟩, happ, hout6, hov6, hn6⟩ := append_out (P := Tryz.prog) (st := 31) (xt := 31) Tryz.underlying31 Tryz.underlying31 Tryz.info65z Tryz.zero65z rfl rfl (show (2 : Nat) ≠ 0 by decide) (by decide) hout4 (by show n2 ≤ kn + 1; omega) (new := [sh.cells]) (y := .slice (some (kn, 0)) 1 2 (some 1)) rfl (by show rowO (Tr.put o kn _) kn = _; rw [rowO_put, if_pos rfl]; simp [rowA_cells]) (by intro r hr; rw [List.mem_singleton.1 hr]; rfl) (by rfl) (by simp) (by rw [List.length_map]; omega) (by simp)
      have hl6 : l6 = h.next := hov6.low (by show h.next ≤ n2; omega)
      subst hl6
      (repeat refine AWp.seq ?_)
      refine AWp.region ?_
      (repeat (first | refine AOps.v rfl rfl rfl rfl rfl (by simp only [evS, cond_tt, cond_ff, absV, depthV, Nat.reduceEqDiff, Nat.reduceLT, ↓reduceIte, Option.map_some, Option.bind_some, List.toList_toArray, op_lookup, hlk, op_build, partsA_cons, partsA_nil, hb1, op_buildSlice, hb2, H.lay]; rfl) ?_ | refine AOps.s rfl rfl rfl ?_ | refine AOps.u rfl rfl rfl rfl (by simp only [evS, cond_tt, cond_ff, absV, depthV, Nat.reduceEqDiff, Nat.reduceLT, ↓reduceIte, Option.map_some, Option.bind_some, List.toList_toArray, op_lookup, hlk, op_build, partsA_cons, partsA_nil, hb1, op_buildSlice, hb2, H.lay]; rfl) ?_))
      (repeat (first | refine AOps.v rfl rfl rfl rfl rfl (by simp only [evS, cond_tt, cond_ff, absV, depthV, Nat.reduceEqDiff, Nat.reduceLT, ↓reduceIte, Option.map_some, Option.bind_some, List.toList_toArray, bi_append, happ]; rfl) ?_ | refine AOps.s rfl rfl rfl ?_ | refine AOps.u rfl rfl rfl rfl (by simp only [evS, cond_tt, cond_ff, absV, depthV, Nat.reduceEqDiff, Nat.reduceLT, ↓reduceIte, Option.map_some, Option.bind_some, List.toList_toArray, bi_append, happ]; rfl) ?_))
      refine AOps.nil ?_
      show AWp _ _ _ _ _
      (repeat refine AWp.seq ?_); change AWp _ _ _ _ _; refine AWp.region ?_; (repeat (first | refine AOps.v rfl rfl rfl rfl rfl (by simp only [evS, cond_tt, cond_ff, absV, depthV, Nat.reduceEqDiff, Nat.reduceLT, ↓reduceIte, Option.map_some, Option.bind_some, List.toList_toArray, bin_add (show -9223372036854775808 ≤ (k : Int) + 1 ∧ (k : Int) + 1 ≤ 9223372036854775807 from ⟨by omega, by omega⟩)]; rfl) ?_ | refine AOps.s rfl rfl rfl ?_ | refine AOps.u rfl rfl rfl rfl (by simp only [evS, cond_tt, cond_ff, absV, depthV, Nat.reduceEqDiff, Nat.reduceLT, ↓reduceIte, Option.map_some, Option.bind_some, List.toList_toArray, bin_add (show -9223372036854775808 ≤ (k : Int) + 1 ∧ (k : Int) + 1 ≤ 9223372036854775807 from ⟨by omega, by omega⟩)]; rfl) ?_)); refine AOps.nil ?_
      refine ⟨ks.length - (k + 1), by omega, k + 1, n6, o6, f6, v', by omega, rfl, ?_, ?_, rfl, rfl, rfl, ?_⟩
      · exact hov.trans ((Over.mk' (Nat.le_succ _) (fun j hj => by rw [put_other _ _ (by omega)]) (fun j hj => by rw [put_other _ _ (by omega)]) : Over n2 ⟨o, fm, kn, h.next⟩ ⟨Tr.put o kn (some (.cells sh.cells kn)), Tr.put fm kn (some (kn, kn)), kn + 1, h.next⟩).trans hov6)
      · rw [hsn, List.map_append]; exact hout6
      · simp only [Has, upd_eq]
        exact ⟨rfl, rfl, rfl, rfl, rfl, trivial⟩
  · have hkk : k = ks.length := by omega
    subst hkk
    have c1 : decide ((ks.length : Int) < (ks.length : Int)) = false := by simp
    rw [List.take_length] at hout
    (repeat refine AWp.seq ?_); change AWp _ _ _ _ _; refine AWp.region ?_; (repeat (first | refine AOps.v rfl rfl rfl rfl rfl (by simp only [evS, cond_tt, cond_ff, absV, depthV, Nat.reduceEqDiff, Nat.reduceLT, ↓reduceIte, Option.map_some, Option.bind_some, List.toList_toArray, c1]; rfl) ?_ | refine AOps.s rfl rfl rfl ?_ | refine AOps.u rfl rfl rfl rfl (by simp only [evS, cond_tt, cond_ff, absV, depthV, Nat.reduceEqDiff, Nat.reduceLT, ↓reduceIte, Option.map_some, Option.bind_some, List.toList_toArray, c1]; rfl) ?_)); refine AOps.nil ?_
    (repeat refine AWp.seq ?_); change AWp _ _ _ _ _; refine AWp.no (by rfl) (by rfl) ?_
    refine AWp.exit ?_
    (try simp only [OutOf, Then, Round, NoGoto, if_true])
    (repeat refine AWp.seq ?_); change AWp _ _ _ _ _; refine AWp.region ?_; (repeat (first | refine AOps.v rfl rfl rfl rfl rfl (by simp only [evS, cond_tt, cond_ff, absV, depthV, Nat.reduceEqDiff, Nat.reduceLT, ↓reduceIte, Option.map_some, Option.bind_some, List.toList_toArray]; rfl) ?_ | refine AOps.s rfl rfl rfl ?_ | refine AOps.u rfl rfl rfl rfl (by simp only [evS, cond_tt, cond_ff, absV, depthV, Nat.reduceEqDiff, Nat.reduceLT, ↓reduceIte, Option.map_some, Option.bind_some, List.toList_toArray]; rfl) ?_)); refine AOps.nil ?_
    refine AWp.ret ?_
    (try simp only [OutOf, Then, Round, NoGoto])
    have hok : ListOk ml (shL ml ks) := ⟨ks, hperm, hsort, rfl⟩
    by_cases hts : shL ml ks = []
    · rw [hts] at hout hok
      have hv0 := hout.nil_of
      subst hv0
      exact leaves_plain (v := .slice none 0 0 (some 0)) (by rfl) (by rfl) (fun _ => rfl) (by rfl) ⟨[], hok, by simp only [backZ, if_true], by simp only [backZ, if_true]⟩
    · have hne : (shL ml ks).map Sh.cells ≠ [] := by simpa using hts
      obtain ⟨fam, hcan⟩ := canon_out hout (show h.next ≤ n2 by omega) (by intro r hr; obtain ⟨t, _, rfl⟩ := List.mem_map.1 hr; exact plain_cellsZ t) hne [] rfl 2
      refine ⟨rfl, _, rfl, out, by rfl, .inr ⟨_, _, _, hcan, rfl, shL ml ks, hok, ?_, ?_⟩⟩
      · simp only [backZ, hts, if_false, List.length_map]
      · simp only [backZ, hts, if_false]

/-- What cost.Shares hands back. -/
def ShQ (ws : List Wy) (ps : List Pt) (c : Co) (h : H) (v : AV) (h' : H) : Prop := ∃ (code : Int) (lv : AV) (ss : List Sh), v = .tup [lv, .int .i64 code] ∧ Over h.next h h' ∧ RdZ h' lv ss ∧ (∀ n, eqTop (n + 1) lv lv = true) ∧
  ((rightB ws c = false ∧ code = 1 ∧ ss = []) ∨ (rightB ws c = true ∧ findP ps c.part = none ∧ code = 2 ∧ ss = []) ∨ (rightB ws c = true ∧ (findP ps c.part).isSome = true ∧ code = 0 ∧ ListOk (billOf ws (findP ps c.part) c) ss))

theorem back_overZ (h : H) (ts : List Sh) : Over h.next h (backZ h ts).2 ∧ RdZ (backZ h ts).2 (backZ h ts).1 ts := by
  unfold backZ
  split
  · rename_i e
    subst e
    exact ⟨Over.refl _ _, ⟨fun r hr => (List.not_mem_nil hr).elim, .inl ⟨rfl, _, _, _, rfl⟩⟩⟩
  · rename_i e
    have hw : ∀ r ∈ ts.map Sh.cells, r.length = 2 := by intro r hr; obtain ⟨t, _, rfl⟩ := List.mem_map.1 hr; rfl
    refine ⟨⟨Nat.le_succ _, fun j hj => put_other _ _ (by omega), fun j hj => put_other _ _ (by omega), fun _ => rfl⟩, hw, .inr ⟨h.next, 0, none, (ts.map Sh.cells).flatten, ?_, Nat.lt_succ_self _, ?_, ?_, ?_⟩⟩
    · rw [List.length_map]
    · show rowO (Tr.put h.objs h.next _) h.next = _
      rw [rowO_put, if_pos rfl]; rfl
    · have := flat_len hw; omega
    · have := flat_len hw
      rw [List.drop_zero, List.take_of_length_le (by omega)]

theorem back_topZ (h : H) (ts : List Sh) (n : Nat) : eqTop (n + 1) (backZ h ts).1 (backZ h ts).1 = true := by
  unfold backZ
  split
  · rfl
  · exact eqTop_slice _ _ _ _ _ _

theorem billOf_len (ws : List Wy) (po : Option Pt) (c : Co) : (billOf ws po c).length ≤ 100000 := by
  unfold billOf
  split
  · simp
  · split
    · simp
    · rename_i w _
      simp only [putM]
      split <;> simp [putM] <;> (repeat (split <;> simp))

set_option maxHeartbeats 4000000 in
theorem Tryz.shares (ws : List Wy) (ps : List Pt) (c : Co) (hlw : ws.length ≤ 1000) (hlp : ps.length ≤ 100000) (hwf : ∀ w ∈ ws, w.fits) (hcf : c.fits) (v pv : AV) (h : H) (hv : RdS h v 5 (ws.map Wy.cells)) (hp : RdS h pv 14 (ps.map Pt.cells)) (hpv1 : pv.cells = [pv]) (hone : ∀ p ∈ ps, oneC p.props = true) :
    ACalls Tryz.prog (.func 10) [v, .agg [pv], .agg c.cells] h (ShQ ws ps c h) := by
  refine ACalls.body (n := 25) Tryz.nogo Tryz.func10 rfl rfl ?_
  rw [argF3]
  have hch1 : chunkL [pv] 0 1 = some [pv] := rfl
  have hch4 : chunkL c.cells 0 4 = some c.cells := rfl
  have hv0 : RdS ⟨h.objs, h.fams, h.next, h.next⟩ v 5 (ws.map Wy.cells) := ⟨hv.wide, hv.at'⟩
  have hp0 : RdS ⟨h.objs, h.fams, h.next, h.next⟩ pv 14 (ps.map Pt.cells) := ⟨hp.wide, hp.at'⟩
  (repeat refine AWp.seq ?_); change AWp _ _ _ _ _; refine AWp.region ?_; (repeat (first | refine AOps.v rfl rfl rfl rfl rfl (by simp only [evS, cond_tt, cond_ff, absV, depthV, Nat.reduceEqDiff, Nat.reduceLT, ↓reduceIte, Option.map_some, Option.bind_some, List.toList_toArray, op_box, H.lay]; rfl) ?_ | refine AOps.s rfl rfl rfl ?_ | refine AOps.u rfl rfl rfl rfl (by simp only [evS, cond_tt, cond_ff, absV, depthV, Nat.reduceEqDiff, Nat.reduceLT, ↓reduceIte, Option.map_some, Option.bind_some, List.toList_toArray, op_box, H.lay]; rfl) ?_)); refine AOps.nil ?_
  obtain ⟨O2, hO2⟩ : ∃ X, X = Tr.put (Tr.put h.objs h.next (some (.cells [pv] h.next))) (h.next + 1) (some (.cells c.cells (h.next + 1))) := ⟨_, rfl⟩
  obtain ⟨F2, hF2⟩ : ∃ X, X = Tr.put (Tr.put h.fams h.next (some (h.next, h.next))) (h.next + 1) (some (h.next + 1, h.next + 1)) := ⟨_, rfl⟩
  rw [← hO2, ← hF2]
  have g0 : rowO O2 h.next = some [pv] := by unfold rowO; rw [hO2, put_other _ _ (by omega), put_same]; rfl
  have g1 : rowO O2 (h.next + 1) = some c.cells := by unfold rowO; rw [hO2, put_same]; rfl
  have hov2 : Over h.next ⟨h.objs, h.fams, h.next, h.next⟩ ⟨O2, F2, h.next + 1 + 1, h.next⟩ := Over.mk' (by omega) (fun j hj => by rw [hO2, put_other _ _ (by omega), put_other _ _ (by omega)]) (fun j hj => by rw [hF2, put_other _ _ (by omega), put_other _ _ (by omega)])
  clear hO2 hF2
  have hv2 := rdS_over hov2 hv0
  have hp2 := rdS_over hov2 hp0
  have nil : ∀ hh : H, RdZ hh (.slice none 0 0 (some 0)) [] := fun hh => ⟨fun r hr => (List.not_mem_nil hr).elim, .inl ⟨rfl, _, _, _, rfl⟩⟩
  (repeat refine AWp.seq ?_); change AWp _ _ _ _ _; refine AWp.region ?_; (repeat (first | refine AOps.v rfl rfl rfl rfl rfl (by simp only [evS, cond_tt, cond_ff, absV, depthV, Nat.reduceEqDiff, Nat.reduceLT, ↓reduceIte, Option.map_some, Option.bind_some, List.toList_toArray, Tryz.tw, H.lay, Nat.zero_add, Nat.add_zero, ↓reduceIte, List.getElem?_cons_zero, List.getElem?_cons_succ, g1, hch4]; rfl) ?_ | refine AOps.s rfl rfl rfl ?_ | refine AOps.u rfl rfl rfl rfl (by simp only [evS, cond_tt, cond_ff, absV, depthV, Nat.reduceEqDiff, Nat.reduceLT, ↓reduceIte, Option.map_some, Option.bind_some, List.toList_toArray, Tryz.tw, H.lay, Nat.zero_add, Nat.add_zero, ↓reduceIte, List.getElem?_cons_zero, List.getElem?_cons_succ, g1, hch4]; rfl) ?_))
  refine AOps.c rfl rfl rfl rfl rfl (by simp only [callOf_val, callW_fn, evS, cond_tt, cond_ff, absV, depthV, Nat.reduceEqDiff, Nat.reduceLT, ↓reduceIte, Option.map_some, Option.bind_some, List.toList_toArray]; rfl) rfl (Tryz.right ws c hwf hcf hlw v _ hv2) ?_; rintro _ _ ⟨rfl, rfl⟩
  cases er : rightB ws c
  · (repeat (first | refine AOps.v rfl rfl rfl rfl rfl (by simp only [evS, cond_tt, cond_ff, absV, depthV, Nat.reduceEqDiff, Nat.reduceLT, ↓reduceIte, Option.map_some, Option.bind_some, List.toList_toArray]; rfl) ?_ | refine AOps.s rfl rfl rfl ?_ | refine AOps.u rfl rfl rfl rfl (by simp only [evS, cond_tt, cond_ff, absV, depthV, Nat.reduceEqDiff, Nat.reduceLT, ↓reduceIte, Option.map_some, Option.bind_some, List.toList_toArray]; rfl) ?_))
    refine AOps.nil ?_
    (repeat refine AWp.seq ?_); change AWp _ _ _ _ _; refine AWp.yes (by rfl) (by rfl) ?_
    (repeat refine AWp.seq ?_); change AWp _ _ _ _ _; refine AWp.region ?_; (repeat (first | refine AOps.v rfl rfl rfl rfl rfl (by simp only [evS, cond_tt, cond_ff, absV, depthV, Nat.reduceEqDiff, Nat.reduceLT, ↓reduceIte, Option.map_some, Option.bind_some, List.toList_toArray]; rfl) ?_ | refine AOps.s rfl rfl rfl ?_ | refine AOps.u rfl rfl rfl rfl (by simp only [evS, cond_tt, cond_ff, absV, depthV, Nat.reduceEqDiff, Nat.reduceLT, ↓reduceIte, Option.map_some, Option.bind_some, List.toList_toArray]; rfl) ?_)); refine AOps.nil ?_
    refine AWp.ret ?_
    (try simp only [OutOf, Then, Round, NoGoto])
    exact leaves_plain (v := .tup [.slice none 0 0 (some 0), .int .i64 1]) (by rfl) (by rfl) (fun _ => rfl) (by rfl) ⟨1, _, [], rfl, Over.refl _ _, nil _, fun _ => rfl, .inl ⟨er, rfl, rfl⟩⟩
  (repeat (first | refine AOps.v rfl rfl rfl rfl rfl (by simp only [evS, cond_tt, cond_ff, absV, depthV, Nat.reduceEqDiff, Nat.reduceLT, ↓reduceIte, Option.map_some, Option.bind_some, List.toList_toArray]; rfl) ?_ | refine AOps.s rfl rfl rfl ?_ | refine AOps.u rfl rfl rfl rfl (by simp only [evS, cond_tt, cond_ff, absV, depthV, Nat.reduceEqDiff, Nat.reduceLT, ↓reduceIte, Option.map_some, Option.bind_some, List.toList_toArray]; rfl) ?_))
  refine AOps.nil ?_
  (repeat refine AWp.seq ?_); change AWp _ _ _ _ _; refine AWp.no (by rfl) (by rfl) (AWp.skip ?_)
  (repeat refine AWp.seq ?_); change AWp _ _ _ _ _; refine AWp.region ?_; (repeat (first | refine AOps.v rfl rfl rfl rfl rfl (by simp only [evS, cond_tt, cond_ff, absV, depthV, Nat.reduceEqDiff, Nat.reduceLT, ↓reduceIte, Option.map_some, Option.bind_some, List.toList_toArray, Tryz.tw, H.lay, Nat.zero_add, Nat.add_zero, ↓reduceIte, List.getElem?_cons_zero, List.getElem?_cons_succ, g0, g1, hch1, hch4]; rfl) ?_ | refine AOps.s rfl rfl rfl ?_ | refine AOps.u rfl rfl rfl rfl (by simp only [evS, cond_tt, cond_ff, absV, depthV, Nat.reduceEqDiff, Nat.reduceLT, ↓reduceIte, Option.map_some, Option.bind_some, List.toList_toArray, Tryz.tw, H.lay, Nat.zero_add, Nat.add_zero, ↓reduceIte, List.getElem?_cons_zero, List.getElem?_cons_succ, g0, g1, hch1, hch4]; rfl) ?_))
  refine AOps.c rfl rfl rfl rfl rfl (by simp only [callOf_val, callW_fn, evS, cond_tt, cond_ff, absV, depthV, Nat.reduceEqDiff, Nat.reduceLT, ↓reduceIte, Option.map_some, Option.bind_some, List.toList_toArray]; rfl) rfl (Tryz.divide ws ps c hlw hlp er v pv ⟨O2, F2, h.next + 1 + 1, h.next⟩ hv2 hp2 hpv1 hone) ?_
  rintro _ ⟨o3, f3, n3, l3⟩ ⟨m, rfl, hov3, hm1, hm2, hm⟩
  have hl3 : l3 = h.next := hov3.low (show h.next ≤ h.next + 1 + 1 by omega)
  subst hl3
  simp only at hm1 hm2 hm
  have hn3 : h.next + 1 + 1 ≤ n3 := hov3.next
  (repeat (first | refine AOps.v rfl rfl rfl rfl rfl (by simp only [evS, cond_tt, cond_ff, absV, depthV, Nat.reduceEqDiff, Nat.reduceLT, ↓reduceIte, Option.map_some, Option.bind_some, List.toList_toArray]; rfl) ?_ | refine AOps.s rfl rfl rfl ?_ | refine AOps.u rfl rfl rfl rfl (by simp only [evS, cond_tt, cond_ff, absV, depthV, Nat.reduceEqDiff, Nat.reduceLT, ↓reduceIte, Option.map_some, Option.bind_some, List.toList_toArray]; rfl) ?_))
  refine AOps.nil ?_
  cases ef : (findP ps c.part).isSome
  · have hnone : findP ps c.part = none := by cases hf : findP ps c.part with
      | none => rfl
      | some p => rw [hf] at ef; cases ef
    (repeat refine AWp.seq ?_); change AWp _ _ _ _ _; refine AWp.region ?_; (repeat (first | refine AOps.v rfl rfl rfl rfl rfl (by simp only [evS, cond_tt, cond_ff, absV, depthV, Nat.reduceEqDiff, Nat.reduceLT, ↓reduceIte, Option.map_some, Option.bind_some, List.toList_toArray]; rfl) ?_ | refine AOps.s rfl rfl rfl ?_ | refine AOps.u rfl rfl rfl rfl (by simp only [evS, cond_tt, cond_ff, absV, depthV, Nat.reduceEqDiff, Nat.reduceLT, ↓reduceIte, Option.map_some, Option.bind_some, List.toList_toArray]; rfl) ?_)); refine AOps.nil ?_
    (repeat refine AWp.seq ?_); change AWp _ _ _ _ _; refine AWp.yes (by rfl) (by rfl) ?_
    (repeat refine AWp.seq ?_); change AWp _ _ _ _ _; refine AWp.region ?_; (repeat (first | refine AOps.v rfl rfl rfl rfl rfl (by simp only [evS, cond_tt, cond_ff, absV, depthV, Nat.reduceEqDiff, Nat.reduceLT, ↓reduceIte, Option.map_some, Option.bind_some, List.toList_toArray]; rfl) ?_ | refine AOps.s rfl rfl rfl ?_ | refine AOps.u rfl rfl rfl rfl (by simp only [evS, cond_tt, cond_ff, absV, depthV, Nat.reduceEqDiff, Nat.reduceLT, ↓reduceIte, Option.map_some, Option.bind_some, List.toList_toArray]; rfl) ?_)); refine AOps.nil ?_
    refine AWp.ret ?_
    (try simp only [OutOf, Then, Round, NoGoto])
    exact leaves_plain (v := .tup [.slice none 0 0 (some 0), .int .i64 2]) (by rfl) (by rfl) (fun _ => rfl) (by rfl) ⟨2, _, [], rfl, Over.refl _ _, nil _, fun _ => rfl, .inr (.inl ⟨er, hnone, rfl, rfl⟩)⟩
  · (repeat refine AWp.seq ?_); change AWp _ _ _ _ _; refine AWp.region ?_; (repeat (first | refine AOps.v rfl rfl rfl rfl rfl (by simp only [evS, cond_tt, cond_ff, absV, depthV, Nat.reduceEqDiff, Nat.reduceLT, ↓reduceIte, Option.map_some, Option.bind_some, List.toList_toArray]; rfl) ?_ | refine AOps.s rfl rfl rfl ?_ | refine AOps.u rfl rfl rfl rfl (by simp only [evS, cond_tt, cond_ff, absV, depthV, Nat.reduceEqDiff, Nat.reduceLT, ↓reduceIte, Option.map_some, Option.bind_some, List.toList_toArray]; rfl) ?_)); refine AOps.nil ?_
    (repeat refine AWp.seq ?_); change AWp _ _ _ _ _; refine AWp.no (by rfl) (by rfl) (AWp.skip ?_)
    (repeat refine AWp.seq ?_); change AWp _ _ _ _ _; refine AWp.region ?_; (repeat (first | refine AOps.v rfl rfl rfl rfl rfl (by simp only [evS, cond_tt, cond_ff, absV, depthV, Nat.reduceEqDiff, Nat.reduceLT, ↓reduceIte, Option.map_some, Option.bind_some, List.toList_toArray]; rfl) ?_ | refine AOps.s rfl rfl rfl ?_ | refine AOps.u rfl rfl rfl rfl (by simp only [evS, cond_tt, cond_ff, absV, depthV, Nat.reduceEqDiff, Nat.reduceLT, ↓reduceIte, Option.map_some, Option.bind_some, List.toList_toArray]; rfl) ?_))
    refine AOps.c rfl rfl rfl rfl rfl (by simp only [callOf_val, callW_fn, evS, cond_tt, cond_ff, absV, depthV, Nat.reduceEqDiff, Nat.reduceLT, ↓reduceIte, Option.map_some, Option.bind_some, List.toList_toArray]; rfl) rfl (Tryz.blist (billOf ws (findP ps c.part) c) m (billOf_len _ _ _) ⟨o3, f3, n3, h.next⟩ hm hm2) ?_
    rintro _ _ ⟨ss, hss, rfl, rfl⟩
    obtain ⟨k1, k2⟩ := back_overZ ⟨o3, f3, n3, h.next⟩ ss
    have k3 := back_topZ ⟨o3, f3, n3, h.next⟩ ss
    generalize backZ ⟨o3, f3, n3, h.next⟩ ss = bk at k1 k2 k3 ⊢
    obtain ⟨lv, o4, f4, n4, l4⟩ := bk
    have hl4 : l4 = h.next := k1.low (show h.next ≤ n3 by omega)
    subst hl4
    simp only at k1 k2 k3 ⊢
    (repeat (first | refine AOps.v rfl rfl rfl rfl rfl (by simp only [evS, cond_tt, cond_ff, absV, depthV, Nat.reduceEqDiff, Nat.reduceLT, ↓reduceIte, Option.map_some, Option.bind_some, List.toList_toArray]; rfl) ?_ | refine AOps.s rfl rfl rfl ?_ | refine AOps.u rfl rfl rfl rfl (by simp only [evS, cond_tt, cond_ff, absV, depthV, Nat.reduceEqDiff, Nat.reduceLT, ↓reduceIte, Option.map_some, Option.bind_some, List.toList_toArray]; rfl) ?_))
    refine AOps.nil ?_
    refine AWp.ret ?_
    (try simp only [OutOf, Then, Round, NoGoto])
    have hov4 : Over h.next ⟨h.objs, h.fams, h.next, h.next⟩ ⟨o4, f4, n4, h.next⟩ := (hov2.trans (hov3.less (show h.next ≤ h.next + 1 + 1 by omega))).trans (k1.less (show h.next ≤ n3 by omega))
    refine ⟨rfl, _, rfl, .tup [lv, .int .i64 0], by rfl, .inl ⟨0, lv, ss, rfl, ⟨hov4.next, hov4.objs, hov4.fams, fun hl => minN_left hl⟩, ⟨k2.wide, k2.at'⟩, k3, .inr (.inr ⟨er, ef, rfl, hss⟩)⟩⟩

end Go.Proofs

/- Seat r1: sizes of warranties, costs and states; a party's share. No conditions beyond those that each theorem states. -/
namespace Go.Proofs
open Go.Ev
set_option maxRecDepth 100000

/-! ### A party's share -/

def ofS (ss : List Sh) (party : List Nat) : Int := match ss.find? fun s => decide (s.pt = party) with
  | some s => s.am
  | none => 0

set_option maxHeartbeats 1000000 in
theorem Tryz.ofShare (ss : List Sh) (party : List Nat) (hlen : ss.length ≤ 100000) (v : AV) (h : H) (hv : RdZ h v ss) : ACalls Tryz.prog (.func 20) [v, .str party] h (fun r h' => r = .int .i64 (ofS ss party) ∧ h' = h) := by
  refine ACalls.body (n := 24) Tryz.nogo Tryz.func20 rfl rfl ?_
  rw [argF2]
  obtain ⟨lo, le, lc, rfl⟩ := hv.len
  rw [List.length_map] at hv ⊢
  (repeat refine AWp.seq ?_); change AWp _ _ _ _ _; refine AWp.region ?_; (repeat (first | refine AOps.v rfl rfl rfl rfl rfl (by simp only [evS, cond_tt, cond_ff, absV, depthV, Nat.reduceEqDiff, Nat.reduceLT, ↓reduceIte, Option.map_some, Option.bind_some, List.toList_toArray]; rfl) ?_ | refine AOps.s rfl rfl rfl ?_ | refine AOps.u rfl rfl rfl rfl (by simp only [evS, cond_tt, cond_ff, absV, depthV, Nat.reduceEqDiff, Nat.reduceLT, ↓reduceIte, Option.map_some, Option.bind_some, List.toList_toArray]; rfl) ?_)); refine AOps.nil ?_
  (repeat refine AWp.seq ?_); change AWp _ _ _ _ _; refine AWp.region ?_; (repeat (first | refine AOps.v rfl rfl rfl rfl rfl (by simp only [evS, cond_tt, cond_ff, absV, depthV, Nat.reduceEqDiff, Nat.reduceLT, ↓reduceIte, Option.map_some, Option.bind_some, List.toList_toArray]; rfl) ?_ | refine AOps.s rfl rfl rfl ?_ | refine AOps.u rfl rfl rfl rfl (by simp only [evS, cond_tt, cond_ff, absV, depthV, Nat.reduceEqDiff, Nat.reduceLT, ↓reduceIte, Option.map_some, Option.bind_some, List.toList_toArray]; rfl) ?_)); refine AOps.nil ?_
  refine AWp.block (AWp.loop (fun m st => ∃ k : Nat, k ≤ ss.length ∧ m = ss.length - k ∧ (∀ i s, i < k → ss[i]? = some s → s.pt ≠ party) ∧
    Fr st [(0, .slice lo ss.length le lc), (1, .str party), (5, .int .i64 (k : Int))] 24 ⟨h.objs, h.fams, h.next, h.next⟩ []) ss.length ?_ ?_)
  · exact ⟨0, by omega, by omega, fun i w hi => by omega, rfl, rfl, rfl, rfl, rfl, rfl, trivial⟩
  rintro m st ⟨k, hk, rfl, hall, hF⟩
  obtain ⟨f, rfl⟩ := hF.open
  clear hF
  simp only [updL]
  by_cases hlt : k < ss.length
  · have c1 : decide ((k : Int) < (ss.length : Int)) = true := by simp only [decide_eq_true_eq]; omega
    obtain ⟨s, hsk⟩ : ∃ s, ss[k]? = some s := ⟨ss[k], List.getElem?_eq_getElem hlt⟩
    obtain ⟨id, off, cap', cs, hv', hid, hrow, hcl, hch, hcell⟩ := hv.open (i := k) (by rw [List.length_map]; exact hlt)
    rw [List.length_map] at hv'
    cases hv'
    have k0 := hcell _ _ (rowsS_get ss hsk) 0 (by omega)
    rw [show s.cells[0]? = some (.str s.pt) from rfl, Nat.add_zero] at k0
    have k1 := hcell _ _ (rowsS_get ss hsk) 1 (by omega)
    rw [show s.cells[1]? = some (.int .i64 s.am) from rfl] at k1
    (repeat refine AWp.seq ?_); change AWp _ _ _ _ _; refine AWp.region ?_; (repeat (first | refine AOps.v rfl rfl rfl rfl rfl (by simp only [evS, cond_tt, cond_ff, absV, depthV, Nat.reduceEqDiff, Nat.reduceLT, ↓reduceIte, Option.map_some, Option.bind_some, List.toList_toArray, len_slice Tryz.underlying31, c1]; rfl) ?_ | refine AOps.s rfl rfl rfl ?_ | refine AOps.u rfl rfl rfl rfl (by simp only [evS, cond_tt, cond_ff, absV, depthV, Nat.reduceEqDiff, Nat.reduceLT, ↓reduceIte, Option.map_some, Option.bind_some, List.toList_toArray, len_slice Tryz.underlying31, c1]; rfl) ?_)); refine AOps.nil ?_
    (repeat refine AWp.seq ?_); change AWp _ _ _ _ _; refine AWp.yes (by rfl) (by rfl) (AWp.skip ?_)
    (repeat refine AWp.seq ?_)
    refine AWp.block ?_
    cases e1 : decide (s.pt = party)
    · (repeat refine AWp.seq ?_); change AWp _ _ _ _ _; refine AWp.region ?_; (repeat (first | refine AOps.v rfl rfl rfl rfl rfl (by simp only [evS, cond_tt, cond_ff, absV, depthV, Nat.reduceEqDiff, Nat.reduceLT, ↓reduceIte, Option.map_some, Option.bind_some, List.toList_toArray, Tryz.tw, H.lay, Nat.zero_add, Nat.add_zero, ↓reduceIte, List.getElem?_cons_zero, List.getElem?_cons_succ, Tryz.fa65_0, Tryz.fa65_1, iaddr_slice Tryz.underlying31 Tryz.size65 hlt, hrow, k0, e1]; rfl) ?_ | refine AOps.s rfl rfl rfl ?_ | refine AOps.u rfl rfl rfl rfl (by simp only [evS, cond_tt, cond_ff, absV, depthV, Nat.reduceEqDiff, Nat.reduceLT, ↓reduceIte, Option.map_some, Option.bind_some, List.toList_toArray, Tryz.tw, H.lay, Nat.zero_add, Nat.add_zero, ↓reduceIte, List.getElem?_cons_zero, List.getElem?_cons_succ, Tryz.fa65_0, Tryz.fa65_1, iaddr_slice Tryz.underlying31 Tryz.size65 hlt, hrow, k0, e1]; rfl) ?_)); refine AOps.nil ?_
      (repeat refine AWp.seq ?_); change AWp _ _ _ _ _; refine AWp.no (by rfl) (by rfl) (AWp.skip ?_)
      (repeat refine AWp.seq ?_); change AWp _ _ _ _ _; refine AWp.region ?_; (repeat (first | refine AOps.v rfl rfl rfl rfl rfl (by simp only [evS, cond_tt, cond_ff, absV, depthV, Nat.reduceEqDiff, Nat.reduceLT, ↓reduceIte, Option.map_some, Option.bind_some, List.toList_toArray, bin_add (show -9223372036854775808 ≤ (k : Int) + 1 ∧ (k : Int) + 1 ≤ 9223372036854775807 from ⟨by omega, by omega⟩)]; rfl) ?_ | refine AOps.s rfl rfl rfl ?_ | refine AOps.u rfl rfl rfl rfl (by simp only [evS, cond_tt, cond_ff, absV, depthV, Nat.reduceEqDiff, Nat.reduceLT, ↓reduceIte, Option.map_some, Option.bind_some, List.toList_toArray, bin_add (show -9223372036854775808 ≤ (k : Int) + 1 ∧ (k : Int) + 1 ≤ 9223372036854775807 from ⟨by omega, by omega⟩)]; rfl) ?_)); refine AOps.nil ?_
      refine ⟨ss.length - (k + 1), by omega, k + 1, by omega, rfl, fun i u hi hu => ?_, rfl, rfl, rfl, ?_⟩
      · by_cases hik : i = k
        · subst hik; rw [hsk] at hu; cases hu; simpa using e1
        · exact hall i u (by omega) hu
      · simp only [Has, upd_eq]
        exact ⟨rfl, rfl, rfl, trivial⟩
    · have hof : ofS ss party = s.am := by
        have : (ss.find? fun s => decide (s.pt = party)) = some s := by
          rw [List.find?_eq_some_iff_getElem]
          refine ⟨e1, k, hlt, ?_, fun j hj => ?_⟩
          · rw [List.getElem?_eq_getElem hlt] at hsk; exact Option.some.inj hsk
          · have := hall j ss[j] hj (List.getElem?_eq_getElem (by omega))
            simp [this]
        unfold ofS; rw [this]
      (repeat refine AWp.seq ?_); change AWp _ _ _ _ _; refine AWp.region ?_; (repeat (first | refine AOps.v rfl rfl rfl rfl rfl (by simp only [evS, cond_tt, cond_ff, absV, depthV, Nat.reduceEqDiff, Nat.reduceLT, ↓reduceIte, Option.map_some, Option.bind_some, List.toList_toArray, Tryz.tw, H.lay, Nat.zero_add, Nat.add_zero, ↓reduceIte, List.getElem?_cons_zero, List.getElem?_cons_succ, Tryz.fa65_0, Tryz.fa65_1, iaddr_slice Tryz.underlying31 Tryz.size65 hlt, hrow, k0, e1]; rfl) ?_ | refine AOps.s rfl rfl rfl ?_ | refine AOps.u rfl rfl rfl rfl (by simp only [evS, cond_tt, cond_ff, absV, depthV, Nat.reduceEqDiff, Nat.reduceLT, ↓reduceIte, Option.map_some, Option.bind_some, List.toList_toArray, Tryz.tw, H.lay, Nat.zero_add, Nat.add_zero, ↓reduceIte, List.getElem?_cons_zero, List.getElem?_cons_succ, Tryz.fa65_0, Tryz.fa65_1, iaddr_slice Tryz.underlying31 Tryz.size65 hlt, hrow, k0, e1]; rfl) ?_)); refine AOps.nil ?_
      (repeat refine AWp.seq ?_); change AWp _ _ _ _ _; refine AWp.yes (by rfl) (by rfl) ?_
      (repeat refine AWp.seq ?_); change AWp _ _ _ _ _; refine AWp.region ?_; (repeat (first | refine AOps.v rfl rfl rfl rfl rfl (by simp only [evS, cond_tt, cond_ff, absV, depthV, Nat.reduceEqDiff, Nat.reduceLT, ↓reduceIte, Option.map_some, Option.bind_some, List.toList_toArray, Tryz.tw, H.lay, Nat.zero_add, Nat.add_zero, ↓reduceIte, List.getElem?_cons_zero, List.getElem?_cons_succ, Tryz.fa65_0, Tryz.fa65_1, iaddr_slice Tryz.underlying31 Tryz.size65 hlt, hrow, k1]; rfl) ?_ | refine AOps.s rfl rfl rfl ?_ | refine AOps.u rfl rfl rfl rfl (by simp only [evS, cond_tt, cond_ff, absV, depthV, Nat.reduceEqDiff, Nat.reduceLT, ↓reduceIte, Option.map_some, Option.bind_some, List.toList_toArray, Tryz.tw, H.lay, Nat.zero_add, Nat.add_zero, ↓reduceIte, List.getElem?_cons_zero, List.getElem?_cons_succ, Tryz.fa65_0, Tryz.fa65_1, iaddr_slice Tryz.underlying31 Tryz.size65 hlt, hrow, k1]; rfl) ?_)); refine AOps.nil ?_
      refine AWp.ret ?_
      (try simp only [OutOf, Then, Round, NoGoto]); refine leaves_plain (by rfl) (by rfl) (fun _ => rfl) (by rfl) ⟨?_, rfl⟩; rw [hof]; rfl
  · have hkk : k = ss.length := by omega
    subst hkk
    have c1 : decide ((ss.length : Int) < (ss.length : Int)) = false := by simp
    have hof : ofS ss party = 0 := by
      have : (ss.find? fun s => decide (s.pt = party)) = none := by
        rw [List.find?_eq_none]
        intro s hs
        obtain ⟨i, hi⟩ := List.mem_iff_getElem?.1 hs
        simp [hall i s (idx_lt hi) hi]
      unfold ofS; rw [this]
    (repeat refine AWp.seq ?_); change AWp _ _ _ _ _; refine AWp.region ?_; (repeat (first | refine AOps.v rfl rfl rfl rfl rfl (by simp only [evS, cond_tt, cond_ff, absV, depthV, Nat.reduceEqDiff, Nat.reduceLT, ↓reduceIte, Option.map_some, Option.bind_some, List.toList_toArray, len_slice Tryz.underlying31, c1]; rfl) ?_ | refine AOps.s rfl rfl rfl ?_ | refine AOps.u rfl rfl rfl rfl (by simp only [evS, cond_tt, cond_ff, absV, depthV, Nat.reduceEqDiff, Nat.reduceLT, ↓reduceIte, Option.map_some, Option.bind_some, List.toList_toArray, len_slice Tryz.underlying31, c1]; rfl) ?_)); refine AOps.nil ?_
    (repeat refine AWp.seq ?_); change AWp _ _ _ _ _; refine AWp.no (by rfl) (by rfl) ?_
    refine AWp.exit ?_
    (try simp only [OutOf, Then, Round, NoGoto, if_true])
    (repeat refine AWp.seq ?_); change AWp _ _ _ _ _; refine AWp.region ?_; (repeat (first | refine AOps.v rfl rfl rfl rfl rfl (by simp only [evS, cond_tt, cond_ff, absV, depthV, Nat.reduceEqDiff, Nat.reduceLT, ↓reduceIte, Option.map_some, Option.bind_some, List.toList_toArray]; rfl) ?_ | refine AOps.s rfl rfl rfl ?_ | refine AOps.u rfl rfl rfl rfl (by simp only [evS, cond_tt, cond_ff, absV, depthV, Nat.reduceEqDiff, Nat.reduceLT, ↓reduceIte, Option.map_some, Option.bind_some, List.toList_toArray]; rfl) ?_)); refine AOps.nil ?_
    refine AWp.ret ?_
    (try simp only [OutOf, Then, Round, NoGoto]); refine leaves_plain (by rfl) (by rfl) (fun _ => rfl) (by rfl) ⟨?_, rfl⟩; rw [hof]; rfl

/-! ### Sizes -/

def Wy.few (w : Wy) : Bool := decide (w.kind.length + w.maker.length ≤ 300)
def fewW (ws : List Wy) (c : Co) : Bool := decide (ws.length ≤ 6) && (ws.all Wy.few && decide (c.part.length + c.owner.length ≤ 300))

theorem fewW_no {ws : List Wy} {c : Co} {i : Nat} {w : Wy} (h : ws[i]? = some w) (hf : w.few = false) : fewW ws c = false := by
  unfold fewW
  have : ws.all Wy.few = false := by
    rw [List.all_eq_false]
    exact ⟨w, List.mem_of_getElem? h, by rw [hf]; decide⟩
  rw [this]; simp

set_option maxHeartbeats 4000000 in
theorem Tryz.fewCost (ws : List Wy) (c : Co) (hb : ∀ w ∈ ws, w.kind.length ≤ 1000000000000000 ∧ w.maker.length ≤ 1000000000000000) (hc : c.part.length ≤ 1000000000000000 ∧ c.owner.length ≤ 1000000000000000) (v : AV) (h : H) (hv : RdS h v 5 (ws.map Wy.cells)) :
    ACalls Tryz.prog (.func 8) [v, .agg c.cells] h (fun r h' => r = .bool (fewW ws c) ∧ h' = h) := by
  refine ACalls.body (n := 44) Tryz.nogo Tryz.func8 rfl rfl ?_
  rw [argF2]
  obtain ⟨lo, le, lc, rfl⟩ := hv.len
  rw [List.length_map] at hv ⊢
  have hv0 : RdS ⟨h.objs, h.fams, h.next, h.next⟩ (.slice lo ws.length le lc) 5 (ws.map Wy.cells) := ⟨hv.wide, hv.at'⟩
  (repeat refine AWp.seq ?_); change AWp _ _ _ _ _; refine AWp.region ?_; (repeat (first | refine AOps.v rfl rfl rfl rfl rfl (by simp only [evS, cond_tt, cond_ff, absV, depthV, Nat.reduceEqDiff, Nat.reduceLT, ↓reduceIte, Option.map_some, Option.bind_some, List.toList_toArray, op_box, H.lay]; rfl) ?_ | refine AOps.s rfl rfl rfl ?_ | refine AOps.u rfl rfl rfl rfl (by simp only [evS, cond_tt, cond_ff, absV, depthV, Nat.reduceEqDiff, Nat.reduceLT, ↓reduceIte, Option.map_some, Option.bind_some, List.toList_toArray, op_box, H.lay]; rfl) ?_)); refine AOps.nil ?_
  (repeat refine AWp.seq ?_); change AWp _ _ _ _ _; refine AWp.region ?_; (repeat (first | refine AOps.v rfl rfl rfl rfl rfl (by simp only [evS, cond_tt, cond_ff, absV, depthV, Nat.reduceEqDiff, Nat.reduceLT, ↓reduceIte, Option.map_some, Option.bind_some, List.toList_toArray]; rfl) ?_ | refine AOps.s rfl rfl rfl ?_ | refine AOps.u rfl rfl rfl rfl (by simp only [evS, cond_tt, cond_ff, absV, depthV, Nat.reduceEqDiff, Nat.reduceLT, ↓reduceIte, Option.map_some, Option.bind_some, List.toList_toArray]; rfl) ?_)); refine AOps.nil ?_
  obtain ⟨O2, hO2⟩ : ∃ X, X = Tr.put h.objs h.next (some (.cells c.cells h.next)) := ⟨_, rfl⟩
  obtain ⟨F2, hF2⟩ : ∃ X, X = Tr.put h.fams h.next (some (h.next, h.next)) := ⟨_, rfl⟩
  rw [← hO2, ← hF2]
  have g0 : rowO O2 h.next = some c.cells := by unfold rowO; rw [hO2, put_same]; rfl
  have gold : ∀ j, j < h.next → O2.get j = h.objs.get j := fun j hj => by rw [hO2, put_other _ _ (by omega)]
  clear hO2 hF2
  have q0 : c.cells[0]? = some (.str c.part) := rfl
  have q1 : c.cells[1]? = some (.str c.owner) := rfl
  by_cases h6 : ws.length ≤ 6
  · have d6 : decide ((ws.length : Int) ≤ 6) = true := by simp only [decide_eq_true_eq]; omega
    refine AWp.block (AWp.loop (fun m st => ∃ k kn : Nat, k ≤ ws.length ∧ m = ws.length - k ∧ h.next + 1 ≤ kn ∧ (∀ i w, i < k → ws[i]? = some w → w.few = true) ∧
      Fr st [(0, .slice lo ws.length le lc), (3, .ptr (some (h.next, 0))), (5, .int .i64 (k : Int))] 44 ⟨O2, F2, kn, h.next⟩ []) ws.length ?_ ?_)
    · exact ⟨0, h.next + 1, by omega, by omega, Nat.le_refl _, fun i w hi => by omega, rfl, rfl, rfl, rfl, rfl, rfl, trivial⟩
    rintro m st ⟨k, kn, hk, rfl, hkn, hall, hF⟩
    obtain ⟨f, rfl⟩ := hF.open
    clear hF
    simp only [updL]
    by_cases hlt : k < ws.length
    · have c1 : decide ((k : Int) < (ws.length : Int)) = true := by simp only [decide_eq_true_eq]; omega
      obtain ⟨w, hwk⟩ : ∃ w, ws[k]? = some w := ⟨ws[k], List.getElem?_eq_getElem hlt⟩
      have hwb := hb w (List.mem_of_getElem? hwk)
      obtain ⟨id, off, cap', cs, hv', hid, hrow0, hcl, hch, hcell⟩ := hv0.open (i := k) (by rw [List.length_map]; exact hlt)
      rw [List.length_map] at hv'
      cases hv'
      simp only at hrow0 hid
      have hrow : rowO O2 id = some cs := rowO_of hrow0 (gold id hid)
      have k0 := hcell _ _ (rowsW_get ws hwk) 0 (by omega)
      rw [show w.cells[0]? = some (.str w.kind) from rfl, Nat.add_zero] at k0
      have k1 := hcell _ _ (rowsW_get ws hwk) 1 (by omega)
      rw [show w.cells[1]? = some (.str w.maker) from rfl] at k1
      have hadd := bin_add (P := Tryz.prog) (t := 3) (a := (w.kind.length : Int)) (b := (w.maker.length : Int)) ⟨by omega, by omega⟩
      (repeat refine AWp.seq ?_); change AWp _ _ _ _ _; refine AWp.region ?_; (repeat (first | refine AOps.v rfl rfl rfl rfl rfl (by simp only [evS, cond_tt, cond_ff, absV, depthV, Nat.reduceEqDiff, Nat.reduceLT, ↓reduceIte, Option.map_some, Option.bind_some, List.toList_toArray, Tryz.tw, H.lay, Nat.zero_add, Nat.add_zero, ↓reduceIte, List.getElem?_cons_zero, List.getElem?_cons_succ, c1, d6]; rfl) ?_ | refine AOps.s rfl rfl rfl ?_ | refine AOps.u rfl rfl rfl rfl (by simp only [evS, cond_tt, cond_ff, absV, depthV, Nat.reduceEqDiff, Nat.reduceLT, ↓reduceIte, Option.map_some, Option.bind_some, List.toList_toArray, Tryz.tw, H.lay, Nat.zero_add, Nat.add_zero, ↓reduceIte, List.getElem?_cons_zero, List.getElem?_cons_succ, c1, d6]; rfl) ?_)); refine AOps.nil ?_
      (repeat refine AWp.seq ?_); change AWp _ _ _ _ _; refine AWp.yes (by rfl) (by rfl) (AWp.skip ?_)
      (repeat refine AWp.seq ?_)
      refine AWp.block ?_
      (repeat refine AWp.seq ?_)
      cases e1 : decide ((300 : Int) < (w.kind.length : Int) + (w.maker.length : Int))
      · have hgood : w.few = true := by unfold Wy.few; simp only [decide_eq_false_iff_not, decide_eq_true_eq] at e1 ⊢; omega
        refine AWp.draws (cv := cv0) cv0_ok rfl (L := 14) rfl (ms := [0, 0, 3, 7, 15, 31, 0, 0, 192, 448, 960, 1984, 4095, 8191]) (by kernel_rfl) (by kernel_rfl) ?_
        (repeat (first | refine DRun.r rfl rfl rfl rfl rfl rfl (by simp only [evS, cond_tt, cond_ff, absV, depthV, Nat.reduceEqDiff, Nat.reduceLT, ↓reduceIte, Option.map_some, Option.bind_some, List.toList_toArray, addX_nil, updo_some, updo_none, orU_some, List.filter_nil, Tryz.tw, H.lay, Nat.zero_add, Nat.add_zero, ↓reduceIte, List.getElem?_cons_zero, List.getElem?_cons_succ, iaddr_slice Tryz.underlying22 Tryz.size59 hlt, hrow, k0, k1, hadd, e1]; rfl) ?_ | refine DRun.s rfl rfl rfl ?_))
        refine DRun.nil ⟨?_, ?_⟩
        · (intro y hy; simp only [List.nil_append, List.cons_append, List.mem_cons, List.not_mem_nil, or_false] at hy; (repeat' (rcases hy with hy | hy)) <;> (try subst hy) <;> refine ⟨by first | exact eqTop_str _ _ | exact eqTop_int _ _ _ | exact eqTop_bool _ _ | exact eqTop_ptr _ _ _ | exact eqTop_map _ _ | exact eqTop_slice _ _ _ _ _ _ | (simp only [eqTop_agg, eqTop_tup, eqTop, all2, eqL_eq, eqI_eq, kEq, decide_true, Bool.and_self, Bool.and_true]; done), ?_⟩ <;> (simp only [phOk]; refine ⟨?_, trivial⟩) <;> first | exact trivial | exact Or.inl rfl | exact Or.inr ⟨_, by simp only [evS, cond_tt, cond_ff, absV, depthV, Nat.reduceEqDiff, Nat.reduceLT, ↓reduceIte, Option.map_some, Option.bind_some, List.toList_toArray, addX_nil, updo_some, updo_none, orU_some, List.filter_nil, Tryz.tw, H.lay, Nat.zero_add, Nat.add_zero, ↓reduceIte, List.getElem?_cons_zero, List.getElem?_cons_succ, iaddr_slice Tryz.underlying22 Tryz.size59 hlt, hrow, k0, k1, hadd, e1]; rfl⟩)
        simp only [List.filter_nil, addX_nil, updo_some, updo_none, orU_some]
        show AWp _ _ _ _ _
        (repeat refine AWp.seq ?_); change AWp _ _ _ _ _; refine AWp.no (by rfl) (by rfl) (AWp.skip ?_)
        (repeat refine AWp.seq ?_); change AWp _ _ _ _ _; refine AWp.region ?_; (repeat (first | refine AOps.v rfl rfl rfl rfl rfl (by simp only [evS, cond_tt, cond_ff, absV, depthV, Nat.reduceEqDiff, Nat.reduceLT, ↓reduceIte, Option.map_some, Option.bind_some, List.toList_toArray, bin_add (show -9223372036854775808 ≤ (k : Int) + 1 ∧ (k : Int) + 1 ≤ 9223372036854775807 from ⟨by omega, by omega⟩)]; rfl) ?_ | refine AOps.s rfl rfl rfl ?_ | refine AOps.u rfl rfl rfl rfl (by simp only [evS, cond_tt, cond_ff, absV, depthV, Nat.reduceEqDiff, Nat.reduceLT, ↓reduceIte, Option.map_some, Option.bind_some, List.toList_toArray, bin_add (show -9223372036854775808 ≤ (k : Int) + 1 ∧ (k : Int) + 1 ≤ 9223372036854775807 from ⟨by omega, by omega⟩)]; rfl) ?_)); refine AOps.nil ?_
        refine ⟨ws.length - (k + 1), by omega, k + 1, kn + 14, by omega, rfl, by omega, fun i u hi hu => ?_, rfl, rfl, rfl, ?_⟩
        · by_cases hik : i = k
          · subst hik; rw [hwk] at hu; cases hu; exact hgood
          · exact hall i u (by omega) hu
        · simp only [Has, upd_eq]
          exact ⟨rfl, rfl, rfl, trivial⟩
      · have hbad : w.few = false := by unfold Wy.few; simp only [decide_eq_false_iff_not, decide_eq_true_eq] at e1 ⊢; omega
        refine AWp.draws (cv := cv0) cv0_ok rfl (L := 14) rfl (ms := [0, 0, 3, 7, 15, 31, 0, 0, 192, 448, 960, 1984, 4095, 8191]) (by kernel_rfl) (by kernel_rfl) ?_
        (repeat (first | refine DRun.r rfl rfl rfl rfl rfl rfl (by simp only [evS, cond_tt, cond_ff, absV, depthV, Nat.reduceEqDiff, Nat.reduceLT, ↓reduceIte, Option.map_some, Option.bind_some, List.toList_toArray, addX_nil, updo_some, updo_none, orU_some, List.filter_nil, Tryz.tw, H.lay, Nat.zero_add, Nat.add_zero, ↓reduceIte, List.getElem?_cons_zero, List.getElem?_cons_succ, iaddr_slice Tryz.underlying22 Tryz.size59 hlt, hrow, k0, k1, hadd, e1]; rfl) ?_ | refine DRun.s rfl rfl rfl ?_))
        refine DRun.nil ⟨?_, ?_⟩
        · (intro y hy; simp only [List.nil_append, List.cons_append, List.mem_cons, List.not_mem_nil, or_false] at hy; (repeat' (rcases hy with hy | hy)) <;> (try subst hy) <;> refine ⟨by first | exact eqTop_str _ _ | exact eqTop_int _ _ _ | exact eqTop_bool _ _ | exact eqTop_ptr _ _ _ | exact eqTop_map _ _ | exact eqTop_slice _ _ _ _ _ _ | (simp only [eqTop_agg, eqTop_tup, eqTop, all2, eqL_eq, eqI_eq, kEq, decide_true, Bool.and_self, Bool.and_true]; done), ?_⟩ <;> (simp only [phOk]; refine ⟨?_, trivial⟩) <;> first | exact trivial | exact Or.inl rfl | exact Or.inr ⟨_, by simp only [evS, cond_tt, cond_ff, absV, depthV, Nat.reduceEqDiff, Nat.reduceLT, ↓reduceIte, Option.map_some, Option.bind_some, List.toList_toArray, addX_nil, updo_some, updo_none, orU_some, List.filter_nil, Tryz.tw, H.lay, Nat.zero_add, Nat.add_zero, ↓reduceIte, List.getElem?_cons_zero, List.getElem?_cons_succ, iaddr_slice Tryz.underlying22 Tryz.size59 hlt, hrow, k0, k1, hadd, e1]; rfl⟩)
        simp only [List.filter_nil, addX_nil, updo_some, updo_none, orU_some]
        show AWp _ _ _ _ _
        (repeat refine AWp.seq ?_); change AWp _ _ _ _ _; refine AWp.yes (by rfl) (by rfl) ?_
        (repeat refine AWp.seq ?_); change AWp _ _ _ _ _; refine AWp.region ?_; (repeat (first | refine AOps.v rfl rfl rfl rfl rfl (by simp only [evS, cond_tt, cond_ff, absV, depthV, Nat.reduceEqDiff, Nat.reduceLT, ↓reduceIte, Option.map_some, Option.bind_some, List.toList_toArray]; rfl) ?_ | refine AOps.s rfl rfl rfl ?_ | refine AOps.u rfl rfl rfl rfl (by simp only [evS, cond_tt, cond_ff, absV, depthV, Nat.reduceEqDiff, Nat.reduceLT, ↓reduceIte, Option.map_some, Option.bind_some, List.toList_toArray]; rfl) ?_)); refine AOps.nil ?_
        refine AWp.ret ?_
        (try simp only [OutOf, Then, Round, NoGoto]); refine leaves_plain (by rfl) (by rfl) (fun _ => rfl) (by rfl) ⟨?_, rfl⟩; rw [fewW_no hwk hbad]; rfl
    · have hkk : k = ws.length := by omega
      subst hkk
      have c1 : decide ((ws.length : Int) < (ws.length : Int)) = false := by simp
      have hallt : ws.all Wy.few = true := by
        rw [List.all_eq_true]
        intro w hwm
        obtain ⟨i, hi⟩ := List.mem_iff_getElem?.1 hwm
        exact hall i w (idx_lt hi) hi
      (repeat refine AWp.seq ?_); change AWp _ _ _ _ _; refine AWp.region ?_; (repeat (first | refine AOps.v rfl rfl rfl rfl rfl (by simp only [evS, cond_tt, cond_ff, absV, depthV, Nat.reduceEqDiff, Nat.reduceLT, ↓reduceIte, Option.map_some, Option.bind_some, List.toList_toArray, Tryz.tw, H.lay, Nat.zero_add, Nat.add_zero, ↓reduceIte, List.getElem?_cons_zero, List.getElem?_cons_succ, c1]; rfl) ?_ | refine AOps.s rfl rfl rfl ?_ | refine AOps.u rfl rfl rfl rfl (by simp only [evS, cond_tt, cond_ff, absV, depthV, Nat.reduceEqDiff, Nat.reduceLT, ↓reduceIte, Option.map_some, Option.bind_some, List.toList_toArray, Tryz.tw, H.lay, Nat.zero_add, Nat.add_zero, ↓reduceIte, List.getElem?_cons_zero, List.getElem?_cons_succ, c1]; rfl) ?_)); refine AOps.nil ?_
      (repeat refine AWp.seq ?_); change AWp _ _ _ _ _; refine AWp.no (by rfl) (by rfl) ?_
      refine AWp.exit ?_
      (try simp only [OutOf, Then, Round, NoGoto, if_true])
      have hadd := bin_add (P := Tryz.prog) (t := 3) (a := (c.part.length : Int)) (b := (c.owner.length : Int)) ⟨by omega, by omega⟩
      have d3 : decide ((c.part.length : Int) + (c.owner.length : Int) ≤ 300) = decide (c.part.length + c.owner.length ≤ 300) := by
        by_cases hx : c.part.length + c.owner.length ≤ 300
        · rw [decide_eq_true hx, decide_eq_true_eq]; omega
        · rw [decide_eq_false hx, decide_eq_false_iff_not]; omega
      have hr : fewW ws c = decide (c.part.length + c.owner.length ≤ 300) := by unfold fewW; rw [hallt, decide_eq_true h6]; rfl
      (repeat refine AWp.seq ?_); change AWp _ _ _ _ _; refine AWp.region ?_; (repeat (first | refine AOps.v rfl rfl rfl rfl rfl (by simp only [evS, cond_tt, cond_ff, absV, depthV, Nat.reduceEqDiff, Nat.reduceLT, ↓reduceIte, Option.map_some, Option.bind_some, List.toList_toArray, Tryz.tw, H.lay, Nat.zero_add, Nat.add_zero, ↓reduceIte, List.getElem?_cons_zero, List.getElem?_cons_succ, d6, g0, q0, q1, hadd, d3]; rfl) ?_ | refine AOps.s rfl rfl rfl ?_ | refine AOps.u rfl rfl rfl rfl (by simp only [evS, cond_tt, cond_ff, absV, depthV, Nat.reduceEqDiff, Nat.reduceLT, ↓reduceIte, Option.map_some, Option.bind_some, List.toList_toArray, Tryz.tw, H.lay, Nat.zero_add, Nat.add_zero, ↓reduceIte, List.getElem?_cons_zero, List.getElem?_cons_succ, d6, g0, q0, q1, hadd, d3]; rfl) ?_)); refine AOps.nil ?_
      refine AWp.ret ?_
      (try simp only [OutOf, Then, Round, NoGoto]); refine leaves_plain (by rfl) (by rfl) (fun _ => rfl) (by rfl) ⟨?_, rfl⟩; rw [hr]; rfl
  · have d6 : decide ((ws.length : Int) ≤ 6) = false := by simp only [decide_eq_false_iff_not]; omega
    have hr : fewW ws c = false := by unfold fewW; rw [decide_eq_false h6]; rfl
    have c1 : decide ((0 : Int) < (ws.length : Int)) = true := by simp only [decide_eq_true_eq]; omega
    refine AWp.block (AWp.loop (fun m st => m = 0 ∧ Fr st [(0, .slice lo ws.length le lc), (3, .ptr (some (h.next, 0))), (5, .int .i64 0)] 44 ⟨O2, F2, h.next + 1, h.next⟩ []) 0 ?_ ?_)
    · exact ⟨rfl, rfl, rfl, rfl, rfl, rfl, rfl, trivial⟩
    rintro m st ⟨rfl, hF⟩
    obtain ⟨f, rfl⟩ := hF.open
    clear hF
    simp only [updL]
    (repeat refine AWp.seq ?_); change AWp _ _ _ _ _; refine AWp.region ?_; (repeat (first | refine AOps.v rfl rfl rfl rfl rfl (by simp only [evS, cond_tt, cond_ff, absV, depthV, Nat.reduceEqDiff, Nat.reduceLT, ↓reduceIte, Option.map_some, Option.bind_some, List.toList_toArray, Tryz.tw, H.lay, Nat.zero_add, Nat.add_zero, ↓reduceIte, List.getElem?_cons_zero, List.getElem?_cons_succ, c1, d6]; rfl) ?_ | refine AOps.s rfl rfl rfl ?_ | refine AOps.u rfl rfl rfl rfl (by simp only [evS, cond_tt, cond_ff, absV, depthV, Nat.reduceEqDiff, Nat.reduceLT, ↓reduceIte, Option.map_some, Option.bind_some, List.toList_toArray, Tryz.tw, H.lay, Nat.zero_add, Nat.add_zero, ↓reduceIte, List.getElem?_cons_zero, List.getElem?_cons_succ, c1, d6]; rfl) ?_)); refine AOps.nil ?_
    (repeat refine AWp.seq ?_); change AWp _ _ _ _ _; refine AWp.no (by rfl) (by rfl) ?_
    refine AWp.exit ?_
    (try simp only [OutOf, Then, Round, NoGoto, if_true])
    (repeat refine AWp.seq ?_); change AWp _ _ _ _ _; refine AWp.region ?_; (repeat (first | refine AOps.v rfl rfl rfl rfl rfl (by simp only [evS, cond_tt, cond_ff, absV, depthV, Nat.reduceEqDiff, Nat.reduceLT, ↓reduceIte, Option.map_some, Option.bind_some, List.toList_toArray, Tryz.tw, H.lay, Nat.zero_add, Nat.add_zero, ↓reduceIte, List.getElem?_cons_zero, List.getElem?_cons_succ, d6]; rfl) ?_ | refine AOps.s rfl rfl rfl ?_ | refine AOps.u rfl rfl rfl rfl (by simp only [evS, cond_tt, cond_ff, absV, depthV, Nat.reduceEqDiff, Nat.reduceLT, ↓reduceIte, Option.map_some, Option.bind_some, List.toList_toArray, Tryz.tw, H.lay, Nat.zero_add, Nat.add_zero, ↓reduceIte, List.getElem?_cons_zero, List.getElem?_cons_succ, d6]; rfl) ?_)); refine AOps.nil ?_
    refine AWp.ret ?_
    (try simp only [OutOf, Then, Round, NoGoto]); refine leaves_plain (by rfl) (by rfl) (fun _ => rfl) (by rfl) ⟨?_, rfl⟩; rw [hr]; rfl

/-! ### The size of a state -/

def prCells (x : List Nat × List Nat) : List AV := [.str x.1, .str x.2]
theorem rowsPr_get (l : List (List Nat × List Nat)) {i : Nat} {x : List Nat × List Nat} (h : l[i]? = some x) : (l.map prCells)[i]? = some (prCells x) := by rw [List.getElem?_map, h]; rfl

/-- What is asked of a part. -/
structure PtOk (h : H) (p : Pt) : Prop where
  one : oneC p.props = true
  top : ∀ n, eqTop (n + 1) p.props p.props = true
  n : p.name.length ≤ 1000000000000000
  k : p.kind.length ≤ 1000000000000000
  i : p.into.length ≤ 1000000000000000
  s : p.slot.length ≤ 1000000000000000
  pr : ∃ l : List (List Nat × List Nat), RdS h p.props 2 (l.map prCells) ∧ l.length ≤ 1000000000000000 ∧ ∀ x ∈ l, x.1.length ≤ 1000000000000000 ∧ x.2.length ≤ 1000000000000000

theorem PtOk.over {h h' : H} (ho : Over h.next h h') {p : Pt} (hp : PtOk h p) : PtOk h' p :=
  ⟨hp.one, hp.top, hp.n, hp.k, hp.i, hp.s, let ⟨l, h1, h2, h3⟩ := hp.pr; ⟨l, rdS_over ho h1, h2, h3⟩⟩

def FewQ (ps : List Pt) (n : Int) (h : H) (r : AV) (h' : H) : Prop := ∃ b, r = .bool b ∧ h' = h ∧ (b = true → (ps.length : Int) ≤ n)

set_option maxHeartbeats 8000000 in
theorem Tryz.fewState (ps : List Pt) (n : Int) (hlen : ps.length ≤ 1000000000000000) (pv : AV) (h : H) (hv : RdS h pv 14 (ps.map Pt.cells)) (hok : ∀ p ∈ ps, PtOk h p) :
    ACalls Tryz.prog (.func 9) [.agg [pv], .int .i64 n] h (FewQ ps n h) := by
  refine ACalls.body (n := 70) Tryz.nogo Tryz.func9 rfl rfl ?_
  rw [argF2]
  obtain ⟨lo, le, lc, rfl⟩ := hv.len
  rw [List.length_map] at hv ⊢
  have hv0 : RdS ⟨h.objs, h.fams, h.next, h.next⟩ (.slice lo ps.length le lc) 14 (ps.map Pt.cells) := ⟨hv.wide, hv.at'⟩
  have hok0 : ∀ p ∈ ps, PtOk ⟨h.objs, h.fams, h.next, h.next⟩ p := fun p hp => let x := hok p hp; ⟨x.one, x.top, x.n, x.k, x.i, x.s, let ⟨l, h1, h2, h3⟩ := x.pr; ⟨l, ⟨h1.wide, h1.at'⟩, h2, h3⟩⟩
  have hbad : ∀ (f : Nat → AV) (o : Tr AO) (fm : Tr (Nat × Nat)) (kn : Nat), Lv Tryz.prog Tryz.f9 h (FewQ ps n h) .ret ⟨upd f 4 (.bool false), 70, ⟨o, fm, kn, h.next⟩, []⟩ := fun f o fm kn =>
    leaves_plain (v := .bool false) (by rfl) (by rfl) (fun _ => rfl) (by rfl) ⟨false, rfl, rfl, fun h => by cases h⟩
  (repeat refine AWp.seq ?_); change AWp _ _ _ _ _; refine AWp.region ?_; (repeat (first | refine AOps.v rfl rfl rfl rfl rfl (by simp only [evS, cond_tt, cond_ff, absV, depthV, Nat.reduceEqDiff, Nat.reduceLT, ↓reduceIte, Option.map_some, Option.bind_some, List.toList_toArray, op_box, H.lay]; rfl) ?_ | refine AOps.s rfl rfl rfl ?_ | refine AOps.u rfl rfl rfl rfl (by simp only [evS, cond_tt, cond_ff, absV, depthV, Nat.reduceEqDiff, Nat.reduceLT, ↓reduceIte, Option.map_some, Option.bind_some, List.toList_toArray, op_box, H.lay]; rfl) ?_)); refine AOps.nil ?_
  obtain ⟨O2, hO2⟩ : ∃ X, X = Tr.put h.objs h.next (some (.cells [.slice lo ps.length le lc] h.next)) := ⟨_, rfl⟩
  obtain ⟨F2, hF2⟩ : ∃ X, X = Tr.put h.fams h.next (some (h.next, h.next)) := ⟨_, rfl⟩
  rw [← hO2, ← hF2]
  have g0 : rowO O2 h.next = some [.slice lo ps.length le lc] := by unfold rowO; rw [hO2, put_same]; rfl
  have hov2 : Over h.next ⟨h.objs, h.fams, h.next, h.next⟩ ⟨O2, F2, h.next + 1, h.next⟩ := Over.mk' (by omega) (fun j hj => by rw [hO2, put_other _ _ (by omega)]) (fun j hj => by rw [hF2, put_other _ _ (by omega)])
  clear hO2 hF2
  cases e0 : decide (n < (ps.length : Int))
  case true =>
    (repeat refine AWp.seq ?_); change AWp _ _ _ _ _; refine AWp.region ?_; (repeat (first | refine AOps.v rfl rfl rfl rfl rfl (by simp only [evS, cond_tt, cond_ff, absV, depthV, Nat.reduceEqDiff, Nat.reduceLT, ↓reduceIte, Option.map_some, Option.bind_some, List.toList_toArray, Tryz.tw, H.lay, Nat.zero_add, Nat.add_zero, ↓reduceIte, List.getElem?_cons_zero, List.getElem?_cons_succ, g0, e0]; rfl) ?_ | refine AOps.s rfl rfl rfl ?_ | refine AOps.u rfl rfl rfl rfl (by simp only [evS, cond_tt, cond_ff, absV, depthV, Nat.reduceEqDiff, Nat.reduceLT, ↓reduceIte, Option.map_some, Option.bind_some, List.toList_toArray, Tryz.tw, H.lay, Nat.zero_add, Nat.add_zero, ↓reduceIte, List.getElem?_cons_zero, List.getElem?_cons_succ, g0, e0]; rfl) ?_)); refine AOps.nil ?_
    (repeat refine AWp.seq ?_); change AWp _ _ _ _ _; refine AWp.yes (by rfl) (by rfl) ?_
    (repeat refine AWp.seq ?_); change AWp _ _ _ _ _; refine AWp.region ?_; (repeat (first | refine AOps.v rfl rfl rfl rfl rfl (by simp only [evS, cond_tt, cond_ff, absV, depthV, Nat.reduceEqDiff, Nat.reduceLT, ↓reduceIte, Option.map_some, Option.bind_some, List.toList_toArray]; rfl) ?_ | refine AOps.s rfl rfl rfl ?_ | refine AOps.u rfl rfl rfl rfl (by simp only [evS, cond_tt, cond_ff, absV, depthV, Nat.reduceEqDiff, Nat.reduceLT, ↓reduceIte, Option.map_some, Option.bind_some, List.toList_toArray]; rfl) ?_)); refine AOps.nil ?_
    refine AWp.ret ?_
    (try simp only [OutOf, Then, Round, NoGoto])
    exact hbad _ _ _ _
  have hle : (ps.length : Int) ≤ n := by simp only [decide_eq_false_iff_not] at e0; omega
  (repeat refine AWp.seq ?_); change AWp _ _ _ _ _; refine AWp.region ?_; (repeat (first | refine AOps.v rfl rfl rfl rfl rfl (by simp only [evS, cond_tt, cond_ff, absV, depthV, Nat.reduceEqDiff, Nat.reduceLT, ↓reduceIte, Option.map_some, Option.bind_some, List.toList_toArray, Tryz.tw, H.lay, Nat.zero_add, Nat.add_zero, ↓reduceIte, List.getElem?_cons_zero, List.getElem?_cons_succ, g0, e0]; rfl) ?_ | refine AOps.s rfl rfl rfl ?_ | refine AOps.u rfl rfl rfl rfl (by simp only [evS, cond_tt, cond_ff, absV, depthV, Nat.reduceEqDiff, Nat.reduceLT, ↓reduceIte, Option.map_some, Option.bind_some, List.toList_toArray, Tryz.tw, H.lay, Nat.zero_add, Nat.add_zero, ↓reduceIte, List.getElem?_cons_zero, List.getElem?_cons_succ, g0, e0]; rfl) ?_)); refine AOps.nil ?_
  (repeat refine AWp.seq ?_); change AWp _ _ _ _ _; refine AWp.no (by rfl) (by rfl) (AWp.skip ?_)
  (repeat refine AWp.seq ?_); change AWp _ _ _ _ _; refine AWp.region ?_; (repeat (first | refine AOps.v rfl rfl rfl rfl rfl (by simp only [evS, cond_tt, cond_ff, absV, depthV, Nat.reduceEqDiff, Nat.reduceLT, ↓reduceIte, Option.map_some, Option.bind_some, List.toList_toArray]; rfl) ?_ | refine AOps.s rfl rfl rfl ?_ | refine AOps.u rfl rfl rfl rfl (by simp only [evS, cond_tt, cond_ff, absV, depthV, Nat.reduceEqDiff, Nat.reduceLT, ↓reduceIte, Option.map_some, Option.bind_some, List.toList_toArray]; rfl) ?_)); refine AOps.nil ?_
  refine AWp.block (AWp.loop (fun m st => ∃ (k kn : Nat) (o : Tr AO) (fm : Tr (Nat × Nat)), k ≤ ps.length ∧ m = ps.length - k ∧ Over (h.next + 1) ⟨O2, F2, h.next + 1, h.next⟩ ⟨o, fm, kn, h.next⟩ ∧
    Fr st [(2, .ptr (some (h.next, 0))), (5, .int .i64 (k : Int))] 70 ⟨o, fm, kn, h.next⟩ []) ps.length ?_ ?_)
  · exact ⟨0, h.next + 1, _, _, by omega, by omega, Over.refl _ _, rfl, rfl, rfl, rfl, rfl, trivial⟩
  rintro m st ⟨k, kn, o, fm, hk, rfl, hov, hF⟩
  obtain ⟨f, rfl⟩ := hF.open
  clear hF
  simp only [updL]
  have hkn : h.next + 1 ≤ kn := hov.next
  have g1 : rowO o h.next = some [.slice lo ps.length le lc] := rowO_of g0 (hov.objs _ (by omega))
  have hov3 : Over h.next ⟨h.objs, h.fams, h.next, h.next⟩ ⟨o, fm, kn, h.next⟩ := hov2.trans (hov.less (Nat.le_succ _))
  have hold : ∀ j, j < h.next → o.get j = h.objs.get j := hov3.objs
  by_cases hlt : k < ps.length
  · have c1 : decide ((k : Int) < (ps.length : Int)) = true := by simp only [decide_eq_true_eq]; omega
    obtain ⟨p, hpk⟩ : ∃ p, ps[k]? = some p := ⟨ps[k], List.getElem?_eq_getElem hlt⟩
    have hpo := hok0 p (List.mem_of_getElem? hpk)
    have hpone : p.cells.all oneC = true := by simp only [Pt.cells, List.all_cons, List.all_nil, hpo.one]; rfl
    obtain ⟨pl, hpr, hpl, hpx⟩ := hpo.pr
    obtain ⟨po, pe, pc, hpe⟩ := hpr.len
    rw [List.length_map] at hpe
    obtain ⟨id, off, cap, cs, hv', hid, hrow0, hcl, hch, hcell⟩ := hv0.open (i := k) (by rw [List.length_map]; exact hlt)
    rw [List.length_map] at hv'
    cases hv'
    simp only at hrow0 hid
    have kc := hch _ _ (rowsP_get ps hpk)
    have hrow : rowO o id = some cs := rowO_of hrow0 (hold id hid)
    (repeat refine AWp.seq ?_); change AWp _ _ _ _ _; refine AWp.region ?_; (repeat (first | refine AOps.v rfl rfl rfl rfl rfl (by simp only [evS, cond_tt, cond_ff, absV, depthV, Nat.reduceEqDiff, Nat.reduceLT, ↓reduceIte, Option.map_some, Option.bind_some, List.toList_toArray, Tryz.tw, H.lay, Nat.zero_add, Nat.add_zero, ↓reduceIte, List.getElem?_cons_zero, List.getElem?_cons_succ, g1, c1]; rfl) ?_ | refine AOps.s rfl rfl rfl ?_ | refine AOps.u rfl rfl rfl rfl (by simp only [evS, cond_tt, cond_ff, absV, depthV, Nat.reduceEqDiff, Nat.reduceLT, ↓reduceIte, Option.map_some, Option.bind_some, List.toList_toArray, Tryz.tw, H.lay, Nat.zero_add, Nat.add_zero, ↓reduceIte, List.getElem?_cons_zero, List.getElem?_cons_succ, g1, c1]; rfl) ?_)); refine AOps.nil ?_
    (repeat refine AWp.seq ?_); change AWp _ _ _ _ _; refine AWp.yes (by rfl) (by rfl) (AWp.skip ?_)
    (repeat refine AWp.seq ?_)
    refine AWp.block ?_
    (repeat refine AWp.seq ?_)
    refine AWp.region ?_
    (repeat (first | refine AOps.v rfl rfl rfl rfl rfl (by simp only [evS, cond_tt, cond_ff, absV, depthV, Nat.reduceEqDiff, Nat.reduceLT, ↓reduceIte, Option.map_some, Option.bind_some, List.toList_toArray, Tryz.tw, H.lay, Nat.zero_add, Nat.add_zero, ↓reduceIte, List.getElem?_cons_zero, List.getElem?_cons_succ, g1, iaddr_slice Tryz.underlying23 Tryz.size90 hlt, hrow, kc, Tryz.zero90]; rfl) ?_ | refine AOps.s rfl rfl rfl ?_ | refine AOps.u rfl rfl rfl rfl (by simp only [evS, cond_tt, cond_ff, absV, depthV, Nat.reduceEqDiff, Nat.reduceLT, ↓reduceIte, Option.map_some, Option.bind_some, List.toList_toArray, Tryz.tw, H.lay, Nat.zero_add, Nat.add_zero, ↓reduceIte, List.getElem?_cons_zero, List.getElem?_cons_succ, g1, iaddr_slice Tryz.underlying23 Tryz.size90 hlt, hrow, kc, Tryz.zero90]; rfl) ?_))
    refine AOps.st rfl rfl rfl (by simp only [evS, cond_tt, cond_ff, absV, depthV, Nat.reduceEqDiff, Nat.reduceLT, ↓reduceIte, Option.map_some, Option.bind_some, List.toList_toArray]; rfl) (by simp only [evS, cond_tt, cond_ff, absV, depthV, Nat.reduceEqDiff, Nat.reduceLT, ↓reduceIte, Option.map_some, Option.bind_some, List.toList_toArray]; rfl) (by exact Tryz.size90) (by simp only [put_get]; rfl) (by simp only [put_get]; rfl) (by rfl) (by exact hpone) (cs' := p.cells) (by rfl) (minN_left (show h.next ≤ kn by omega)) ?_
    refine AOps.nil ?_
    have hR3 : rowO (Tr.put (Tr.put o kn (some (.cells Pt.zero.cells kn))) kn (some (.cells p.cells kn))) kn = some p.cells := by rw [rowO_put, if_pos rfl]; rfl
    have hov4 : Over (h.next + 1) ⟨o, fm, kn, h.next⟩ ⟨Tr.put (Tr.put o kn (some (.cells Pt.zero.cells kn))) kn (some (.cells p.cells kn)), Tr.put fm kn (some (kn, kn)), kn + 1, h.next⟩ :=
      Over.mk' (Nat.le_succ _) (fun j hj => by rw [put_other _ _ (by omega), put_other _ _ (by omega)]) (fun j hj => by rw [put_other _ _ (by omega)])
    simp only [AV.cells]
    generalize Tr.put (Tr.put o kn (some (.cells Pt.zero.cells kn))) kn (some (.cells p.cells kn)) = O3 at hR3 hov4 ⊢
    generalize Tr.put fm kn (some (kn, kn)) = F3 at hov4 ⊢
    have hov5 := hov.trans hov4
    have hov6 : Over h.next ⟨h.objs, h.fams, h.next, h.next⟩ ⟨O3, F3, kn + 1, h.next⟩ := hov3.trans (hov4.less (Nat.le_succ _))
    have p0 : p.cells[0]? = some (.str p.name) := rfl
    have p1 : p.cells[1]? = some (.str p.kind) := rfl
    have p2 : p.cells[2]? = some (.str p.into) := rfl
    have p3 : p.cells[3]? = some (.str p.slot) := rfl
    have p7 : p.cells[7]? = some p.props := rfl
    have b1 := hpo.n; have b2 := hpo.k; have b3 := hpo.i; have b4 := hpo.s
    have ha1 := bin_add (P := Tryz.prog) (t := 3) (a := (p.name.length : Int)) (b := (p.kind.length : Int)) ⟨by omega, by omega⟩
    have ha2 := bin_add (P := Tryz.prog) (t := 3) (a := (p.name.length : Int) + (p.kind.length : Int)) (b := (p.into.length : Int)) ⟨by omega, by omega⟩
    have ha3 := bin_add (P := Tryz.prog) (t := 3) (a := (p.name.length : Int) + (p.kind.length : Int) + (p.into.length : Int)) (b := (p.slot.length : Int)) ⟨by omega, by omega⟩
    cases e1 : decide ((300 : Int) < (p.name.length : Int) + (p.kind.length : Int) + (p.into.length : Int) + (p.slot.length : Int))
    case true =>
      (repeat refine AWp.seq ?_); change AWp _ _ _ _ _; refine AWp.region ?_; (repeat (first | refine AOps.v rfl rfl rfl rfl rfl (by simp only [evS, cond_tt, cond_ff, absV, depthV, Nat.reduceEqDiff, Nat.reduceLT, ↓reduceIte, Option.map_some, Option.bind_some, List.toList_toArray, Tryz.tw, H.lay, Nat.zero_add, Nat.add_zero, ↓reduceIte, List.getElem?_cons_zero, List.getElem?_cons_succ, hR3, p0, p1, p2, p3, p7, ha1, ha2, ha3, e1]; rfl) ?_ | refine AOps.s rfl rfl rfl ?_ | refine AOps.u rfl rfl rfl rfl (by simp only [evS, cond_tt, cond_ff, absV, depthV, Nat.reduceEqDiff, Nat.reduceLT, ↓reduceIte, Option.map_some, Option.bind_some, List.toList_toArray, Tryz.tw, H.lay, Nat.zero_add, Nat.add_zero, ↓reduceIte, List.getElem?_cons_zero, List.getElem?_cons_succ, hR3, p0, p1, p2, p3, p7, ha1, ha2, ha3, e1]; rfl) ?_)); refine AOps.nil ?_
      (repeat refine AWp.seq ?_); change AWp _ _ _ _ _; refine AWp.yes (by rfl) (by rfl) ?_
      (repeat refine AWp.seq ?_); change AWp _ _ _ _ _; refine AWp.region ?_; (repeat (first | refine AOps.v rfl rfl rfl rfl rfl (by simp only [evS, cond_tt, cond_ff, absV, depthV, Nat.reduceEqDiff, Nat.reduceLT, ↓reduceIte, Option.map_some, Option.bind_some, List.toList_toArray]; rfl) ?_ | refine AOps.s rfl rfl rfl ?_ | refine AOps.u rfl rfl rfl rfl (by simp only [evS, cond_tt, cond_ff, absV, depthV, Nat.reduceEqDiff, Nat.reduceLT, ↓reduceIte, Option.map_some, Option.bind_some, List.toList_toArray]; rfl) ?_)); refine AOps.nil ?_
      refine AWp.ret ?_
      (try simp only [OutOf, Then, Round, NoGoto])
      exact hbad _ _ _ _
    cases e2 : decide ((65 : Int) < (pl.length : Int))
    case true =>
      (repeat refine AWp.seq ?_); change AWp _ _ _ _ _; refine AWp.region ?_; (repeat (first | refine AOps.v rfl rfl rfl rfl rfl (by simp only [evS, cond_tt, cond_ff, absV, depthV, Nat.reduceEqDiff, Nat.reduceLT, ↓reduceIte, Option.map_some, Option.bind_some, List.toList_toArray, Tryz.tw, H.lay, Nat.zero_add, Nat.add_zero, ↓reduceIte, List.getElem?_cons_zero, List.getElem?_cons_succ, hR3, p0, p1, p2, p3, p7, ha1, ha2, ha3, e1, hpe, e2]; rfl) ?_ | refine AOps.s rfl rfl rfl ?_ | refine AOps.u rfl rfl rfl rfl (by simp only [evS, cond_tt, cond_ff, absV, depthV, Nat.reduceEqDiff, Nat.reduceLT, ↓reduceIte, Option.map_some, Option.bind_some, List.toList_toArray, Tryz.tw, H.lay, Nat.zero_add, Nat.add_zero, ↓reduceIte, List.getElem?_cons_zero, List.getElem?_cons_succ, hR3, p0, p1, p2, p3, p7, ha1, ha2, ha3, e1, hpe, e2]; rfl) ?_)); refine AOps.nil ?_
      (repeat refine AWp.seq ?_); change AWp _ _ _ _ _; refine AWp.yes (by rfl) (by rfl) ?_
      (repeat refine AWp.seq ?_); change AWp _ _ _ _ _; refine AWp.region ?_; (repeat (first | refine AOps.v rfl rfl rfl rfl rfl (by simp only [evS, cond_tt, cond_ff, absV, depthV, Nat.reduceEqDiff, Nat.reduceLT, ↓reduceIte, Option.map_some, Option.bind_some, List.toList_toArray]; rfl) ?_ | refine AOps.s rfl rfl rfl ?_ | refine AOps.u rfl rfl rfl rfl (by simp only [evS, cond_tt, cond_ff, absV, depthV, Nat.reduceEqDiff, Nat.reduceLT, ↓reduceIte, Option.map_some, Option.bind_some, List.toList_toArray]; rfl) ?_)); refine AOps.nil ?_
      refine AWp.ret ?_
      (try simp only [OutOf, Then, Round, NoGoto])
      exact hbad _ _ _ _
    (repeat refine AWp.seq ?_); change AWp _ _ _ _ _; refine AWp.region ?_; (repeat (first | refine AOps.v rfl rfl rfl rfl rfl (by simp only [evS, cond_tt, cond_ff, absV, depthV, Nat.reduceEqDiff, Nat.reduceLT, ↓reduceIte, Option.map_some, Option.bind_some, List.toList_toArray, Tryz.tw, H.lay, Nat.zero_add, Nat.add_zero, ↓reduceIte, List.getElem?_cons_zero, List.getElem?_cons_succ, hR3, p0, p1, p2, p3, p7, ha1, ha2, ha3, e1, hpe, e2]; rfl) ?_ | refine AOps.s rfl rfl rfl ?_ | refine AOps.u rfl rfl rfl rfl (by simp only [evS, cond_tt, cond_ff, absV, depthV, Nat.reduceEqDiff, Nat.reduceLT, ↓reduceIte, Option.map_some, Option.bind_some, List.toList_toArray, Tryz.tw, H.lay, Nat.zero_add, Nat.add_zero, ↓reduceIte, List.getElem?_cons_zero, List.getElem?_cons_succ, hR3, p0, p1, p2, p3, p7, ha1, ha2, ha3, e1, hpe, e2]; rfl) ?_)); refine AOps.nil ?_
    (repeat refine AWp.seq ?_); change AWp _ _ _ _ _; refine AWp.no (by rfl) (by rfl) (AWp.skip ?_)
    (repeat refine AWp.seq ?_); change AWp _ _ _ _ _; refine AWp.region ?_; (repeat (first | refine AOps.v rfl rfl rfl rfl rfl (by simp only [evS, cond_tt, cond_ff, absV, depthV, Nat.reduceEqDiff, Nat.reduceLT, ↓reduceIte, Option.map_some, Option.bind_some, List.toList_toArray]; rfl) ?_ | refine AOps.s rfl rfl rfl ?_ | refine AOps.u rfl rfl rfl rfl (by simp only [evS, cond_tt, cond_ff, absV, depthV, Nat.reduceEqDiff, Nat.reduceLT, ↓reduceIte, Option.map_some, Option.bind_some, List.toList_toArray]; rfl) ?_)); refine AOps.nil ?_
    refine AWp.block (AWp.loop (fun q st => ∃ (j jn : Nat), j ≤ pl.length ∧ q = pl.length - j ∧ kn + 1 ≤ jn ∧
      Fr st [(2, .ptr (some (h.next, 0))), (5, .int .i64 (k : Int)), (6, .ptr (some (kn, 0))), (7, .int .i64 (j : Int))] 70 ⟨O3, F3, jn, h.next⟩ []) pl.length ?_ ?_)
    · exact ⟨0, kn + 1, by omega, by omega, Nat.le_refl _, rfl, rfl, rfl, rfl, rfl, rfl, rfl, trivial⟩
    rintro q st ⟨j, jn, hj, rfl, hjn, hF⟩
    obtain ⟨f, rfl⟩ := hF.open
    clear hF
    simp only [updL]
    by_cases hjl : j < pl.length
    · have c2 : decide ((j : Int) < (pl.length : Int)) = true := by simp only [decide_eq_true_eq]; omega
      obtain ⟨x, hxk⟩ : ∃ x, pl[j]? = some x := ⟨pl[j], List.getElem?_eq_getElem hjl⟩
      have hxb := hpx x (List.mem_of_getElem? hxk)
      have hpr3 : RdS ⟨O3, F3, kn + 1, h.next⟩ p.props 2 (pl.map prCells) := rdS_over hov6 hpr
      obtain ⟨pid, poff, pcap, pcs, hpv', hpid, hprow, hpcl, hpch, hpcell⟩ := hpr3.open (i := j) (by rw [List.length_map]; exact hjl)
      rw [List.length_map] at hpv'
      simp only at hprow
      have x0 := hpcell _ _ (rowsPr_get pl hxk) 0 (by omega)
      rw [show (prCells x)[0]? = some (.str x.1) from rfl, Nat.add_zero] at x0
      have x1 := hpcell _ _ (rowsPr_get pl hxk) 1 (by omega)
      rw [show (prCells x)[1]? = some (.str x.2) from rfl] at x1
      have hxa := bin_add (P := Tryz.prog) (t := 3) (a := (x.1.length : Int)) (b := (x.2.length : Int)) ⟨by omega, by omega⟩
      rw [hpv'] at p7
      (repeat refine AWp.seq ?_); change AWp _ _ _ _ _; refine AWp.region ?_; (repeat (first | refine AOps.v rfl rfl rfl rfl rfl (by simp only [evS, cond_tt, cond_ff, absV, depthV, Nat.reduceEqDiff, Nat.reduceLT, ↓reduceIte, Option.map_some, Option.bind_some, List.toList_toArray, Tryz.tw, H.lay, Nat.zero_add, Nat.add_zero, ↓reduceIte, List.getElem?_cons_zero, List.getElem?_cons_succ, hR3, p7, c2]; rfl) ?_ | refine AOps.s rfl rfl rfl ?_ | refine AOps.u rfl rfl rfl rfl (by simp only [evS, cond_tt, cond_ff, absV, depthV, Nat.reduceEqDiff, Nat.reduceLT, ↓reduceIte, Option.map_some, Option.bind_some, List.toList_toArray, Tryz.tw, H.lay, Nat.zero_add, Nat.add_zero, ↓reduceIte, List.getElem?_cons_zero, List.getElem?_cons_succ, hR3, p7, c2]; rfl) ?_)); refine AOps.nil ?_
      (repeat refine AWp.seq ?_); change AWp _ _ _ _ _; refine AWp.yes (by rfl) (by rfl) (AWp.skip ?_)
      (repeat refine AWp.seq ?_)
      refine AWp.block ?_
      (repeat refine AWp.seq ?_)
      cases e3 : decide ((300 : Int) < (x.1.length : Int) + (x.2.length : Int))
      · refine AWp.draws (cv := cv0) cv0_ok rfl (L := 16) rfl (ms := [0, 1, 0, 7, 15, 31, 63, 0, 128, 0, 896, 1920, 3968, 8064, 16383, 32767]) (by kernel_rfl) (by kernel_rfl) ?_
        (repeat (first | refine DRun.r rfl rfl rfl rfl rfl rfl (by simp only [evS, cond_tt, cond_ff, absV, depthV, Nat.reduceEqDiff, Nat.reduceLT, ↓reduceIte, Option.map_some, Option.bind_some, List.toList_toArray, addX_nil, updo_some, updo_none, orU_some, List.filter_nil, Tryz.tw, H.lay, Nat.zero_add, Nat.add_zero, ↓reduceIte, List.getElem?_cons_zero, List.getElem?_cons_succ, hR3, p7, iaddr_slice Tryz.underlying86 Tryz.size92 hjl, hprow, x0, x1, hxa, e3]; rfl) ?_ | refine DRun.s rfl rfl rfl ?_))
        refine DRun.nil ⟨?_, ?_⟩
        · (intro y hy; simp only [List.nil_append, List.cons_append, List.mem_cons, List.not_mem_nil, or_false] at hy; (repeat' (rcases hy with hy | hy)) <;> (try subst hy) <;> refine ⟨by first | exact eqTop_str _ _ | exact eqTop_int _ _ _ | exact eqTop_bool _ _ | exact eqTop_ptr _ _ _ | exact eqTop_map _ _ | exact eqTop_slice _ _ _ _ _ _ | (simp only [eqTop_agg, eqTop_tup, eqTop, all2, eqL_eq, eqI_eq, kEq, decide_true, Bool.and_self, Bool.and_true]; done), ?_⟩ <;> (simp only [phOk]; refine ⟨?_, trivial⟩) <;> first | exact trivial | exact Or.inl rfl | exact Or.inr ⟨_, by simp only [evS, cond_tt, cond_ff, absV, depthV, Nat.reduceEqDiff, Nat.reduceLT, ↓reduceIte, Option.map_some, Option.bind_some, List.toList_toArray, addX_nil, updo_some, updo_none, orU_some, List.filter_nil, Tryz.tw, H.lay, Nat.zero_add, Nat.add_zero, ↓reduceIte, List.getElem?_cons_zero, List.getElem?_cons_succ, hR3, p7, iaddr_slice Tryz.underlying86 Tryz.size92 hjl, hprow, x0, x1, hxa, e3]; rfl⟩)
        simp only [List.filter_nil, addX_nil, updo_some, updo_none, orU_some]
        show AWp _ _ _ _ _
        (repeat refine AWp.seq ?_); change AWp _ _ _ _ _; refine AWp.no (by rfl) (by rfl) (AWp.skip ?_)
        (repeat refine AWp.seq ?_); change AWp _ _ _ _ _; refine AWp.region ?_; (repeat (first | refine AOps.v rfl rfl rfl rfl rfl (by simp only [evS, cond_tt, cond_ff, absV, depthV, Nat.reduceEqDiff, Nat.reduceLT, ↓reduceIte, Option.map_some, Option.bind_some, List.toList_toArray, bin_add (show -9223372036854775808 ≤ (j : Int) + 1 ∧ (j : Int) + 1 ≤ 9223372036854775807 from ⟨by omega, by omega⟩)]; rfl) ?_ | refine AOps.s rfl rfl rfl ?_ | refine AOps.u rfl rfl rfl rfl (by simp only [evS, cond_tt, cond_ff, absV, depthV, Nat.reduceEqDiff, Nat.reduceLT, ↓reduceIte, Option.map_some, Option.bind_some, List.toList_toArray, bin_add (show -9223372036854775808 ≤ (j : Int) + 1 ∧ (j : Int) + 1 ≤ 9223372036854775807 from ⟨by omega, by omega⟩)]; rfl) ?_)); refine AOps.nil ?_
        exact ⟨pl.length - (j + 1), by omega, j + 1, jn + 16, by omega, rfl, by omega, rfl, rfl, rfl, rfl, rfl, rfl, rfl, trivial⟩
      · refine AWp.draws (cv := cv0) cv0_ok rfl (L := 16) rfl (ms := [0, 1, 0, 7, 15, 31, 63, 0, 128, 0, 896, 1920, 3968, 8064, 16383, 32767]) (by kernel_rfl) (by kernel_rfl) ?_
        (repeat (first | refine DRun.r rfl rfl rfl rfl rfl rfl (by simp only [evS, cond_tt, cond_ff, absV, depthV, Nat.reduceEqDiff, Nat.reduceLT, ↓reduceIte, Option.map_some, Option.bind_some, List.toList_toArray, addX_nil, updo_some, updo_none, orU_some, List.filter_nil, Tryz.tw, H.lay, Nat.zero_add, Nat.add_zero, ↓reduceIte, List.getElem?_cons_zero, List.getElem?_cons_succ, hR3, p7, iaddr_slice Tryz.underlying86 Tryz.size92 hjl, hprow, x0, x1, hxa, e3]; rfl) ?_ | refine DRun.s rfl rfl rfl ?_))
        refine DRun.nil ⟨?_, ?_⟩
        · (intro y hy; simp only [List.nil_append, List.cons_append, List.mem_cons, List.not_mem_nil, or_false] at hy; (repeat' (rcases hy with hy | hy)) <;> (try subst hy) <;> refine ⟨by first | exact eqTop_str _ _ | exact eqTop_int _ _ _ | exact eqTop_bool _ _ | exact eqTop_ptr _ _ _ | exact eqTop_map _ _ | exact eqTop_slice _ _ _ _ _ _ | (simp only [eqTop_agg, eqTop_tup, eqTop, all2, eqL_eq, eqI_eq, kEq, decide_true, Bool.and_self, Bool.and_true]; done), ?_⟩ <;> (simp only [phOk]; refine ⟨?_, trivial⟩) <;> first | exact trivial | exact Or.inl rfl | exact Or.inr ⟨_, by simp only [evS, cond_tt, cond_ff, absV, depthV, Nat.reduceEqDiff, Nat.reduceLT, ↓reduceIte, Option.map_some, Option.bind_some, List.toList_toArray, addX_nil, updo_some, updo_none, orU_some, List.filter_nil, Tryz.tw, H.lay, Nat.zero_add, Nat.add_zero, ↓reduceIte, List.getElem?_cons_zero, List.getElem?_cons_succ, hR3, p7, iaddr_slice Tryz.underlying86 Tryz.size92 hjl, hprow, x0, x1, hxa, e3]; rfl⟩)
        simp only [List.filter_nil, addX_nil, updo_some, updo_none, orU_some]
        show AWp _ _ _ _ _
        (repeat refine AWp.seq ?_); change AWp _ _ _ _ _; refine AWp.yes (by rfl) (by rfl) ?_
        (repeat refine AWp.seq ?_); change AWp _ _ _ _ _; refine AWp.region ?_; (repeat (first | refine AOps.v rfl rfl rfl rfl rfl (by simp only [evS, cond_tt, cond_ff, absV, depthV, Nat.reduceEqDiff, Nat.reduceLT, ↓reduceIte, Option.map_some, Option.bind_some, List.toList_toArray]; rfl) ?_ | refine AOps.s rfl rfl rfl ?_ | refine AOps.u rfl rfl rfl rfl (by simp only [evS, cond_tt, cond_ff, absV, depthV, Nat.reduceEqDiff, Nat.reduceLT, ↓reduceIte, Option.map_some, Option.bind_some, List.toList_toArray]; rfl) ?_)); refine AOps.nil ?_
        refine AWp.ret ?_
        (try simp only [OutOf, Then, Round, NoGoto])
        exact hbad _ _ _ _
    · have hjj : j = pl.length := by omega
      subst hjj
      have c2 : decide ((pl.length : Int) < (pl.length : Int)) = false := by simp
      (repeat refine AWp.seq ?_); change AWp _ _ _ _ _; refine AWp.region ?_; (repeat (first | refine AOps.v rfl rfl rfl rfl rfl (by simp only [evS, cond_tt, cond_ff, absV, depthV, Nat.reduceEqDiff, Nat.reduceLT, ↓reduceIte, Option.map_some, Option.bind_some, List.toList_toArray, Tryz.tw, H.lay, Nat.zero_add, Nat.add_zero, ↓reduceIte, List.getElem?_cons_zero, List.getElem?_cons_succ, hR3, p7, hpe, c2]; rfl) ?_ | refine AOps.s rfl rfl rfl ?_ | refine AOps.u rfl rfl rfl rfl (by simp only [evS, cond_tt, cond_ff, absV, depthV, Nat.reduceEqDiff, Nat.reduceLT, ↓reduceIte, Option.map_some, Option.bind_some, List.toList_toArray, Tryz.tw, H.lay, Nat.zero_add, Nat.add_zero, ↓reduceIte, List.getElem?_cons_zero, List.getElem?_cons_succ, hR3, p7, hpe, c2]; rfl) ?_)); refine AOps.nil ?_
      (repeat refine AWp.seq ?_); change AWp _ _ _ _ _; refine AWp.no (by rfl) (by rfl) ?_
      refine AWp.exit ?_
      (try simp only [OutOf, Then, Round, NoGoto, if_true])
      show AWp _ _ _ _ _
      (repeat refine AWp.seq ?_); change AWp _ _ _ _ _; refine AWp.region ?_; (repeat (first | refine AOps.v rfl rfl rfl rfl rfl (by simp only [evS, cond_tt, cond_ff, absV, depthV, Nat.reduceEqDiff, Nat.reduceLT, ↓reduceIte, Option.map_some, Option.bind_some, List.toList_toArray, bin_add (show -9223372036854775808 ≤ (k : Int) + 1 ∧ (k : Int) + 1 ≤ 9223372036854775807 from ⟨by omega, by omega⟩)]; rfl) ?_ | refine AOps.s rfl rfl rfl ?_ | refine AOps.u rfl rfl rfl rfl (by simp only [evS, cond_tt, cond_ff, absV, depthV, Nat.reduceEqDiff, Nat.reduceLT, ↓reduceIte, Option.map_some, Option.bind_some, List.toList_toArray, bin_add (show -9223372036854775808 ≤ (k : Int) + 1 ∧ (k : Int) + 1 ≤ 9223372036854775807 from ⟨by omega, by omega⟩)]; rfl) ?_)); refine AOps.nil ?_
      exact ⟨ps.length - (k + 1), by omega, k + 1, jn, O3, F3, by omega, rfl, ⟨by have := hov5.next; simp only at this ⊢; omega, hov5.objs, hov5.fams, hov5.low⟩, rfl, rfl, rfl, rfl, rfl, trivial⟩
  · have hkk : k = ps.length := by omega
    subst hkk
    have c1 : decide ((ps.length : Int) < (ps.length : Int)) = false := by simp
    (repeat refine AWp.seq ?_); change AWp _ _ _ _ _; refine AWp.region ?_; (repeat (first | refine AOps.v rfl rfl rfl rfl rfl (by simp only [evS, cond_tt, cond_ff, absV, depthV, Nat.reduceEqDiff, Nat.reduceLT, ↓reduceIte, Option.map_some, Option.bind_some, List.toList_toArray, Tryz.tw, H.lay, Nat.zero_add, Nat.add_zero, ↓reduceIte, List.getElem?_cons_zero, List.getElem?_cons_succ, g1, c1]; rfl) ?_ | refine AOps.s rfl rfl rfl ?_ | refine AOps.u rfl rfl rfl rfl (by simp only [evS, cond_tt, cond_ff, absV, depthV, Nat.reduceEqDiff, Nat.reduceLT, ↓reduceIte, Option.map_some, Option.bind_some, List.toList_toArray, Tryz.tw, H.lay, Nat.zero_add, Nat.add_zero, ↓reduceIte, List.getElem?_cons_zero, List.getElem?_cons_succ, g1, c1]; rfl) ?_)); refine AOps.nil ?_
    (repeat refine AWp.seq ?_); change AWp _ _ _ _ _; refine AWp.no (by rfl) (by rfl) ?_
    refine AWp.exit ?_
    (try simp only [OutOf, Then, Round, NoGoto, if_true])
    (repeat refine AWp.seq ?_); change AWp _ _ _ _ _; refine AWp.region ?_; (repeat (first | refine AOps.v rfl rfl rfl rfl rfl (by simp only [evS, cond_tt, cond_ff, absV, depthV, Nat.reduceEqDiff, Nat.reduceLT, ↓reduceIte, Option.map_some, Option.bind_some, List.toList_toArray]; rfl) ?_ | refine AOps.s rfl rfl rfl ?_ | refine AOps.u rfl rfl rfl rfl (by simp only [evS, cond_tt, cond_ff, absV, depthV, Nat.reduceEqDiff, Nat.reduceLT, ↓reduceIte, Option.map_some, Option.bind_some, List.toList_toArray]; rfl) ?_)); refine AOps.nil ?_
    refine AWp.ret ?_
    (try simp only [OutOf, Then, Round, NoGoto])
    exact leaves_plain (v := .bool true) (by rfl) (by rfl) (fun _ => rfl) (by rfl) ⟨true, rfl, rfl, fun _ => hle⟩

end Go.Proofs
