/- Seat r1: warranties and costs that are valid; a part found; ages. No conditions beyond those that each theorem states. -/
import Derived.Test.YthfdoggncbcmjaaGreatCa
import Derived.Test.YthfdoggncbcmjaaGreatGh

set_option linter.unusedSimpArgs false
set_option linter.unusedVariables false
set_option linter.unusedSectionVars false

namespace Go.Proofs
open Go.Ev
set_option maxRecDepth 100000

def Wy.ok (w : Wy) : Bool := nameN w.kind && (nameN w.maker && (isDy w.days && (isAm w.km && (decide (0 ≤ w.pct) && decide (w.pct ≤ 100)))))
def Co.ok (c : Co) : Bool := nameN c.part && (nameN c.owner && (isDy c.day && isAm c.am))
structure Wy.fits (w : Wy) : Prop where
  k : w.kind.length ≤ 1000000
  kb : ∀ b ∈ w.kind, b < 256
  m : w.maker.length ≤ 1000000
  mb : ∀ b ∈ w.maker, b < 256
structure Co.fits (c : Co) : Prop where
  p : c.part.length ≤ 1000000
  pb : ∀ b ∈ c.part, b < 256
  o : c.owner.length ≤ 1000000
  ob : ∀ b ∈ c.owner, b < 256
def rightB (ws : List Wy) (c : Co) : Bool := ws.all Wy.ok && c.ok

theorem rowsW_get (ws : List Wy) {i : Nat} {w : Wy} (h : ws[i]? = some w) : (ws.map Wy.cells)[i]? = some w.cells := by rw [List.getElem?_map, h]; rfl
theorem rowsP_get (ps : List Pt) {i : Nat} {p : Pt} (h : ps[i]? = some p) : (ps.map Pt.cells)[i]? = some p.cells := by rw [List.getElem?_map, h]; rfl

theorem Tryz.zero59 : zeroA Tryz.prog 59 = some (.agg [.str [], .str [], .int .i64 0, .int .i64 0, .int .i64 0]) := by kernel_rfl
def Pt.zero : Pt := ⟨[], [], [], [], 0, 0, false, .slice none 0 0 (some 0), 0, 0, 0, 0, 0, 0⟩
theorem Tryz.zero90 : zeroA Tryz.prog 90 = some (.agg Pt.zero.cells) := by kernel_rfl
theorem Tryz.zero79 : zeroA Tryz.prog 79 = some (.agg [.int .i64 0, .int .i64 0]) := by kernel_rfl
theorem build39 (a b : Int) : buildA Tryz.prog 79 [(0, .int .i64 a), (1, .int .i64 b)] = some (.agg [.int .i64 a, .int .i64 b]) := by kernel_rfl
theorem build39e : buildA Tryz.prog 79 [] = some (.agg [.int .i64 0, .int .i64 0]) := by kernel_rfl
theorem build43e : buildA Tryz.prog 90 [] = some (.agg Pt.zero.cells) := by kernel_rfl

theorem all_ok_false {ws : List Wy} {c : Co} {k : Nat} {w : Wy} (hw : ws[k]? = some w) (h : w.ok = false) : rightB ws c = false := by
  unfold rightB
  have : ws.all Wy.ok = false := by
    rw [List.all_eq_false]
    exact ⟨w, List.mem_of_getElem? hw, by rw [h]; decide⟩
  rw [this]; rfl

set_option maxHeartbeats 8000000 in
theorem Tryz.right (ws : List Wy) (c : Co) (hw : ∀ w ∈ ws, w.fits) (hc : c.fits) (hlen : ws.length ≤ 1000) (v : AV) (h : H) (hv : RdS h v 5 (ws.map Wy.cells)) :
    ACalls Tryz.prog (.func 26) [v, .agg c.cells] h (fun r h' => r = .bool (rightB ws c) ∧ h' = h) := by
  refine ACalls.body (n := 70) Tryz.nogo Tryz.func26 rfl rfl ?_
  rw [argF2]
  obtain ⟨lo, le, lc, rfl⟩ := hv.len
  rw [List.length_map] at hv ⊢
  have hv0 : RdS ⟨h.objs, h.fams, h.next, h.next⟩ (.slice lo ws.length le lc) 5 (ws.map Wy.cells) := ⟨hv.wide, hv.at'⟩
  (repeat refine AWp.seq ?_); change AWp _ _ _ _ _; refine AWp.region ?_; (repeat (first | refine AOps.v rfl rfl rfl rfl rfl (by simp only [evS, cond_tt, cond_ff, absV, depthV, Nat.reduceEqDiff, Nat.reduceLT, ↓reduceIte, Option.map_some, Option.bind_some, List.toList_toArray, op_box, H.lay]; rfl) ?_ | refine AOps.s rfl rfl rfl ?_ | refine AOps.u rfl rfl rfl rfl (by simp only [evS, cond_tt, cond_ff, absV, depthV, Nat.reduceEqDiff, Nat.reduceLT, ↓reduceIte, Option.map_some, Option.bind_some, List.toList_toArray, op_box, H.lay]; rfl) ?_)); refine AOps.nil ?_
  (repeat refine AWp.seq ?_); change AWp _ _ _ _ _; refine AWp.region ?_; (repeat (first | refine AOps.v rfl rfl rfl rfl rfl (by simp only [evS, cond_tt, cond_ff, absV, depthV, Nat.reduceEqDiff, Nat.reduceLT, ↓reduceIte, Option.map_some, Option.bind_some, List.toList_toArray]; rfl) ?_ | refine AOps.s rfl rfl rfl ?_ | refine AOps.u rfl rfl rfl rfl (by simp only [evS, cond_tt, cond_ff, absV, depthV, Nat.reduceEqDiff, Nat.reduceLT, ↓reduceIte, Option.map_some, Option.bind_some, List.toList_toArray]; rfl) ?_)); refine AOps.nil ?_
  (repeat refine AWp.seq ?_); change AWp _ _ _ _ _; refine AWp.region ?_; (repeat (first | refine AOps.v rfl rfl rfl rfl rfl (by simp only [evS, cond_tt, cond_ff, absV, depthV, Nat.reduceEqDiff, Nat.reduceLT, ↓reduceIte, Option.map_some, Option.bind_some, List.toList_toArray]; rfl) ?_ | refine AOps.s rfl rfl rfl ?_ | refine AOps.u rfl rfl rfl rfl (by simp only [evS, cond_tt, cond_ff, absV, depthV, Nat.reduceEqDiff, Nat.reduceLT, ↓reduceIte, Option.map_some, Option.bind_some, List.toList_toArray]; rfl) ?_)); refine AOps.nil ?_
  (repeat refine AWp.seq ?_); change AWp _ _ _ _ _; refine AWp.region ?_; (repeat (first | refine AOps.v rfl rfl rfl rfl rfl (by simp only [evS, cond_tt, cond_ff, absV, depthV, Nat.reduceEqDiff, Nat.reduceLT, ↓reduceIte, Option.map_some, Option.bind_some, List.toList_toArray, Tryz.tw, H.lay, Nat.zero_add, Nat.add_zero, ↓reduceIte, List.getElem?_cons_zero, List.getElem?_cons_succ]; rfl) ?_ | refine AOps.s rfl rfl rfl ?_ | refine AOps.u rfl rfl rfl rfl (by simp only [evS, cond_tt, cond_ff, absV, depthV, Nat.reduceEqDiff, Nat.reduceLT, ↓reduceIte, Option.map_some, Option.bind_some, List.toList_toArray, Tryz.tw, H.lay, Nat.zero_add, Nat.add_zero, ↓reduceIte, List.getElem?_cons_zero, List.getElem?_cons_succ]; rfl) ?_)); refine AOps.nil ?_
  refine AWp.block (AWp.loop (fun m st => ∃ (k kn : Nat) (o : Tr AO) (fm : Tr (Nat × Nat)), k ≤ ws.length ∧ m = ws.length - k ∧ (∀ i w, i < k → ws[i]? = some w → w.ok = true) ∧ Over (h.next + 1) ⟨Tr.put h.objs h.next (some (.cells c.cells h.next)), Tr.put h.fams h.next (some (h.next, h.next)), h.next + 1, h.next⟩ ⟨o, fm, kn, h.next⟩ ∧
    Fr st [(3, .ptr (some (h.next, 0))), (5, .fn (.func 63) [] []), (6, .fn (.func 64) [] []), (9, .slice lo ws.length le lc), (10, .int .i64 (ws.length : Int)), (11, .int .i64 (k : Int))] 70 ⟨o, fm, kn, h.next⟩ []) ws.length ?_ ?_)
  · exact ⟨0, h.next + 1, _, _, by omega, by omega, fun i w hi => by omega, Over.refl _ _, rfl, rfl, rfl, rfl, rfl, rfl, rfl, rfl, rfl, trivial⟩
  rintro m st ⟨k, kn, o, fm, hk, rfl, hall, hov, hF⟩
  obtain ⟨f, rfl⟩ := hF.open
  clear hF
  simp only [updL]
  have hkn : h.next + 1 ≤ kn := hov.next
  have hcN : rowO o h.next = some c.cells := by unfold rowO; rw [hov.objs h.next (by omega)]; show ((Tr.put h.objs h.next _).get h.next).bind rowA = _; rw [put_same]; rfl
  have hold : ∀ j, j < h.next → o.get j = h.objs.get j := fun j hj => by rw [hov.objs j (by omega)]; show (Tr.put h.objs h.next _).get j = _; rw [put_other _ _ (by omega)]
  by_cases hlt : k < ws.length
  · have c1 : decide ((k : Int) < (ws.length : Int)) = true := by simp only [decide_eq_true_eq]; omega
    obtain ⟨w, hwk⟩ : ∃ w, ws[k]? = some w := ⟨ws[k], List.getElem?_eq_getElem hlt⟩
    have hwf := hw w (List.mem_of_getElem? hwk)
    obtain ⟨id, off, cap, cs, hv', hid, hrow0, hcl, hch, hcell⟩ := hv0.open (i := k) (by rw [List.length_map]; exact hlt)
    rw [List.length_map] at hv'
    cases hv'
    simp only at hrow0 hid
    have kc := hch _ _ (rowsW_get ws hwk)
    have hrow : rowO o id = some cs := by unfold rowO; rw [hold id hid]; exact hrow0
    (repeat refine AWp.seq ?_); change AWp _ _ _ _ _; refine AWp.region ?_; (repeat (first | refine AOps.v rfl rfl rfl rfl rfl (by simp only [evS, cond_tt, cond_ff, absV, depthV, Nat.reduceEqDiff, Nat.reduceLT, ↓reduceIte, Option.map_some, Option.bind_some, List.toList_toArray, c1]; rfl) ?_ | refine AOps.s rfl rfl rfl ?_ | refine AOps.u rfl rfl rfl rfl (by simp only [evS, cond_tt, cond_ff, absV, depthV, Nat.reduceEqDiff, Nat.reduceLT, ↓reduceIte, Option.map_some, Option.bind_some, List.toList_toArray, c1]; rfl) ?_)); refine AOps.nil ?_
    (repeat refine AWp.seq ?_); change AWp _ _ _ _ _; refine AWp.yes (by rfl) (by rfl) (AWp.skip ?_)
    (repeat refine AWp.seq ?_)
    refine AWp.block ?_
    (repeat refine AWp.seq ?_)
    refine AWp.region ?_
    (repeat (first | refine AOps.v rfl rfl rfl rfl rfl (by simp only [evS, cond_tt, cond_ff, absV, depthV, Nat.reduceEqDiff, Nat.reduceLT, ↓reduceIte, Option.map_some, Option.bind_some, List.toList_toArray, Tryz.tw, H.lay, Nat.zero_add, Nat.add_zero, ↓reduceIte, List.getElem?_cons_zero, List.getElem?_cons_succ, iaddr_slice Tryz.underlying22 Tryz.size59 hlt, hrow, kc, Tryz.zero59]; rfl) ?_ | refine AOps.s rfl rfl rfl ?_ | refine AOps.u rfl rfl rfl rfl (by simp only [evS, cond_tt, cond_ff, absV, depthV, Nat.reduceEqDiff, Nat.reduceLT, ↓reduceIte, Option.map_some, Option.bind_some, List.toList_toArray, Tryz.tw, H.lay, Nat.zero_add, Nat.add_zero, ↓reduceIte, List.getElem?_cons_zero, List.getElem?_cons_succ, iaddr_slice Tryz.underlying22 Tryz.size59 hlt, hrow, kc, Tryz.zero59]; rfl) ?_))
    refine AOps.st rfl rfl rfl (by simp only [evS, cond_tt, cond_ff, absV, depthV, Nat.reduceEqDiff, Nat.reduceLT, ↓reduceIte, Option.map_some, Option.bind_some, List.toList_toArray]; rfl) (by simp only [evS, cond_tt, cond_ff, absV, depthV, Nat.reduceEqDiff, Nat.reduceLT, ↓reduceIte, Option.map_some, Option.bind_some, List.toList_toArray]; rfl) (by exact Tryz.size59) (by simp only [put_get]; rfl) (by simp only [put_get]; rfl) (by rfl) (by rfl) (cs' := w.cells) (by rfl) (minN_left (show h.next ≤ kn by omega)) ?_
    refine AOps.nil ?_
    have hO2 : rowO (Tr.put (Tr.put o kn (some (.cells [.str [], .str [], .int .i64 0, .int .i64 0, .int .i64 0] kn))) kn (some (.cells w.cells kn))) kn = some w.cells := by rw [rowO_put, if_pos rfl]; rfl
    have hov2 : Over (h.next + 1) ⟨o, fm, kn, h.next⟩ ⟨Tr.put (Tr.put o kn (some (.cells [.str [], .str [], .int .i64 0, .int .i64 0, .int .i64 0] kn))) kn (some (.cells w.cells kn)), Tr.put fm kn (some (kn, kn)), kn + 1, h.next⟩ :=
      ⟨Nat.le_succ _, fun j hj => by show (Tr.put (Tr.put o kn _) kn _).get j = _; rw [put_other _ _ (by omega), put_other _ _ (by omega)], fun j hj => by show (Tr.put fm kn _).get j = _; rw [put_other _ _ (by omega)], fun _ => rfl⟩
    have hov3 := hov.trans hov2
    simp only [AV.cells]
    generalize Tr.put (Tr.put o kn (some (.cells [.str [], .str [], .int .i64 0, .int .i64 0, .int .i64 0] kn))) kn (some (.cells w.cells kn)) = O2 at hO2 hov2 hov3 ⊢
    generalize Tr.put fm kn (some (kn, kn)) = F2 at hov2 hov3 ⊢
    have w0 : w.cells[0]? = some (.str w.kind) := rfl
    have w1 : w.cells[1]? = some (.str w.maker) := rfl
    have w2 : w.cells[2]? = some (.int .i64 w.days) := rfl
    have w3 : w.cells[3]? = some (.int .i64 w.km) := rfl
    have w4 : w.cells[4]? = some (.int .i64 w.pct) := rfl
    (repeat refine AWp.seq ?_); change AWp _ _ _ _ _; refine AWp.region ?_; (repeat (first | refine AOps.v rfl rfl rfl rfl rfl (by simp only [evS, cond_tt, cond_ff, absV, depthV, Nat.reduceEqDiff, Nat.reduceLT, ↓reduceIte, Option.map_some, Option.bind_some, List.toList_toArray, Tryz.tw, H.lay, Nat.zero_add, Nat.add_zero, ↓reduceIte, List.getElem?_cons_zero, List.getElem?_cons_succ, hO2, w0, w1, w2, w3, w4]; rfl) ?_ | refine AOps.s rfl rfl rfl ?_ | refine AOps.u rfl rfl rfl rfl (by simp only [evS, cond_tt, cond_ff, absV, depthV, Nat.reduceEqDiff, Nat.reduceLT, ↓reduceIte, Option.map_some, Option.bind_some, List.toList_toArray, Tryz.tw, H.lay, Nat.zero_add, Nat.add_zero, ↓reduceIte, List.getElem?_cons_zero, List.getElem?_cons_succ, hO2, w0, w1, w2, w3, w4]; rfl) ?_))
    refine AOps.c rfl rfl rfl rfl rfl (by simp only [callOf_val, callW_fn, evS, cond_tt, cond_ff, absV, depthV, Nat.reduceEqDiff, Nat.reduceLT, ↓reduceIte, Option.map_some, Option.bind_some, List.toList_toArray]; rfl) rfl (Tryz.lexName _ hwf.k hwf.kb _) ?_; rintro _ _ ⟨rfl, rfl⟩
    cases e1 : nameN w.kind
    · have hbad : w.ok = false := by unfold Wy.ok; rw [e1]; rfl
      (repeat (first | refine AOps.v rfl rfl rfl rfl rfl (by simp only [evS, cond_tt, cond_ff, absV, depthV, Nat.reduceEqDiff, Nat.reduceLT, ↓reduceIte, Option.map_some, Option.bind_some, List.toList_toArray, Tryz.tw, H.lay, Nat.zero_add, Nat.add_zero, ↓reduceIte, List.getElem?_cons_zero, List.getElem?_cons_succ, hO2, w0, w1, w2, w3, w4]; rfl) ?_ | refine AOps.s rfl rfl rfl ?_ | refine AOps.u rfl rfl rfl rfl (by simp only [evS, cond_tt, cond_ff, absV, depthV, Nat.reduceEqDiff, Nat.reduceLT, ↓reduceIte, Option.map_some, Option.bind_some, List.toList_toArray, Tryz.tw, H.lay, Nat.zero_add, Nat.add_zero, ↓reduceIte, List.getElem?_cons_zero, List.getElem?_cons_succ, hO2, w0, w1, w2, w3, w4]; rfl) ?_))
      refine AOps.nil ?_; show AWp _ _ _ _ _
      (repeat refine AWp.seq ?_); change AWp _ _ _ _ _; refine AWp.yes (by rfl) (by rfl) ?_
      (repeat refine AWp.seq ?_); change AWp _ _ _ _ _; refine AWp.region ?_; (repeat (first | refine AOps.v rfl rfl rfl rfl rfl (by simp only [evS, cond_tt, cond_ff, absV, depthV, Nat.reduceEqDiff, Nat.reduceLT, ↓reduceIte, Option.map_some, Option.bind_some, List.toList_toArray]; rfl) ?_ | refine AOps.s rfl rfl rfl ?_ | refine AOps.u rfl rfl rfl rfl (by simp only [evS, cond_tt, cond_ff, absV, depthV, Nat.reduceEqDiff, Nat.reduceLT, ↓reduceIte, Option.map_some, Option.bind_some, List.toList_toArray]; rfl) ?_)); refine AOps.nil ?_
      refine AWp.ret ?_
      (try simp only [OutOf, Then, Round, NoGoto]); refine leaves_plain (by rfl) (by rfl) (fun _ => rfl) (by rfl) ⟨?_, rfl⟩; rw [all_ok_false hwk hbad]; rfl
    (repeat (first | refine AOps.v rfl rfl rfl rfl rfl (by simp only [evS, cond_tt, cond_ff, absV, depthV, Nat.reduceEqDiff, Nat.reduceLT, ↓reduceIte, Option.map_some, Option.bind_some, List.toList_toArray, Tryz.tw, H.lay, Nat.zero_add, Nat.add_zero, ↓reduceIte, List.getElem?_cons_zero, List.getElem?_cons_succ, hO2, w0, w1, w2, w3, w4]; rfl) ?_ | refine AOps.s rfl rfl rfl ?_ | refine AOps.u rfl rfl rfl rfl (by simp only [evS, cond_tt, cond_ff, absV, depthV, Nat.reduceEqDiff, Nat.reduceLT, ↓reduceIte, Option.map_some, Option.bind_some, List.toList_toArray, Tryz.tw, H.lay, Nat.zero_add, Nat.add_zero, ↓reduceIte, List.getElem?_cons_zero, List.getElem?_cons_succ, hO2, w0, w1, w2, w3, w4]; rfl) ?_))
    refine AOps.c rfl rfl rfl rfl rfl (by simp only [callOf_val, callW_fn, evS, cond_tt, cond_ff, absV, depthV, Nat.reduceEqDiff, Nat.reduceLT, ↓reduceIte, Option.map_some, Option.bind_some, List.toList_toArray]; rfl) rfl (Tryz.lexName _ hwf.m hwf.mb _) ?_; rintro _ _ ⟨rfl, rfl⟩
    cases e2 : nameN w.maker
    · have hbad : w.ok = false := by unfold Wy.ok; rw [e1, e2]; rfl
      (repeat (first | refine AOps.v rfl rfl rfl rfl rfl (by simp only [evS, cond_tt, cond_ff, absV, depthV, Nat.reduceEqDiff, Nat.reduceLT, ↓reduceIte, Option.map_some, Option.bind_some, List.toList_toArray, Tryz.tw, H.lay, Nat.zero_add, Nat.add_zero, ↓reduceIte, List.getElem?_cons_zero, List.getElem?_cons_succ, hO2, w0, w1, w2, w3, w4]; rfl) ?_ | refine AOps.s rfl rfl rfl ?_ | refine AOps.u rfl rfl rfl rfl (by simp only [evS, cond_tt, cond_ff, absV, depthV, Nat.reduceEqDiff, Nat.reduceLT, ↓reduceIte, Option.map_some, Option.bind_some, List.toList_toArray, Tryz.tw, H.lay, Nat.zero_add, Nat.add_zero, ↓reduceIte, List.getElem?_cons_zero, List.getElem?_cons_succ, hO2, w0, w1, w2, w3, w4]; rfl) ?_))
      refine AOps.nil ?_; show AWp _ _ _ _ _
      (repeat refine AWp.seq ?_); change AWp _ _ _ _ _; refine AWp.yes (by rfl) (by rfl) ?_
      (repeat refine AWp.seq ?_); change AWp _ _ _ _ _; refine AWp.region ?_; (repeat (first | refine AOps.v rfl rfl rfl rfl rfl (by simp only [evS, cond_tt, cond_ff, absV, depthV, Nat.reduceEqDiff, Nat.reduceLT, ↓reduceIte, Option.map_some, Option.bind_some, List.toList_toArray]; rfl) ?_ | refine AOps.s rfl rfl rfl ?_ | refine AOps.u rfl rfl rfl rfl (by simp only [evS, cond_tt, cond_ff, absV, depthV, Nat.reduceEqDiff, Nat.reduceLT, ↓reduceIte, Option.map_some, Option.bind_some, List.toList_toArray]; rfl) ?_)); refine AOps.nil ?_
      refine AWp.ret ?_
      (try simp only [OutOf, Then, Round, NoGoto]); refine leaves_plain (by rfl) (by rfl) (fun _ => rfl) (by rfl) ⟨?_, rfl⟩; rw [all_ok_false hwk hbad]; rfl
    (repeat (first | refine AOps.v rfl rfl rfl rfl rfl (by simp only [evS, cond_tt, cond_ff, absV, depthV, Nat.reduceEqDiff, Nat.reduceLT, ↓reduceIte, Option.map_some, Option.bind_some, List.toList_toArray, Tryz.tw, H.lay, Nat.zero_add, Nat.add_zero, ↓reduceIte, List.getElem?_cons_zero, List.getElem?_cons_succ, hO2, w0, w1, w2, w3, w4]; rfl) ?_ | refine AOps.s rfl rfl rfl ?_ | refine AOps.u rfl rfl rfl rfl (by simp only [evS, cond_tt, cond_ff, absV, depthV, Nat.reduceEqDiff, Nat.reduceLT, ↓reduceIte, Option.map_some, Option.bind_some, List.toList_toArray, Tryz.tw, H.lay, Nat.zero_add, Nat.add_zero, ↓reduceIte, List.getElem?_cons_zero, List.getElem?_cons_succ, hO2, w0, w1, w2, w3, w4]; rfl) ?_))
    refine AOps.c rfl rfl rfl rfl rfl (by simp only [callOf_val, callW_fn, evS, cond_tt, cond_ff, absV, depthV, Nat.reduceEqDiff, Nat.reduceLT, ↓reduceIte, Option.map_some, Option.bind_some, List.toList_toArray]; rfl) rfl (Tryz.dayOk w.days _) ?_; rintro _ _ ⟨rfl, rfl⟩
    cases e3 : isDy w.days
    · have hbad : w.ok = false := by unfold Wy.ok; rw [e1, e2, e3]; rfl
      (repeat (first | refine AOps.v rfl rfl rfl rfl rfl (by simp only [evS, cond_tt, cond_ff, absV, depthV, Nat.reduceEqDiff, Nat.reduceLT, ↓reduceIte, Option.map_some, Option.bind_some, List.toList_toArray, Tryz.tw, H.lay, Nat.zero_add, Nat.add_zero, ↓reduceIte, List.getElem?_cons_zero, List.getElem?_cons_succ, hO2, w0, w1, w2, w3, w4]; rfl) ?_ | refine AOps.s rfl rfl rfl ?_ | refine AOps.u rfl rfl rfl rfl (by simp only [evS, cond_tt, cond_ff, absV, depthV, Nat.reduceEqDiff, Nat.reduceLT, ↓reduceIte, Option.map_some, Option.bind_some, List.toList_toArray, Tryz.tw, H.lay, Nat.zero_add, Nat.add_zero, ↓reduceIte, List.getElem?_cons_zero, List.getElem?_cons_succ, hO2, w0, w1, w2, w3, w4]; rfl) ?_))
      refine AOps.nil ?_; show AWp _ _ _ _ _
      (repeat refine AWp.seq ?_); change AWp _ _ _ _ _; refine AWp.yes (by rfl) (by rfl) ?_
      (repeat refine AWp.seq ?_); change AWp _ _ _ _ _; refine AWp.region ?_; (repeat (first | refine AOps.v rfl rfl rfl rfl rfl (by simp only [evS, cond_tt, cond_ff, absV, depthV, Nat.reduceEqDiff, Nat.reduceLT, ↓reduceIte, Option.map_some, Option.bind_some, List.toList_toArray]; rfl) ?_ | refine AOps.s rfl rfl rfl ?_ | refine AOps.u rfl rfl rfl rfl (by simp only [evS, cond_tt, cond_ff, absV, depthV, Nat.reduceEqDiff, Nat.reduceLT, ↓reduceIte, Option.map_some, Option.bind_some, List.toList_toArray]; rfl) ?_)); refine AOps.nil ?_
      refine AWp.ret ?_
      (try simp only [OutOf, Then, Round, NoGoto]); refine leaves_plain (by rfl) (by rfl) (fun _ => rfl) (by rfl) ⟨?_, rfl⟩; rw [all_ok_false hwk hbad]; rfl
    (repeat (first | refine AOps.v rfl rfl rfl rfl rfl (by simp only [evS, cond_tt, cond_ff, absV, depthV, Nat.reduceEqDiff, Nat.reduceLT, ↓reduceIte, Option.map_some, Option.bind_some, List.toList_toArray, Tryz.tw, H.lay, Nat.zero_add, Nat.add_zero, ↓reduceIte, List.getElem?_cons_zero, List.getElem?_cons_succ, hO2, w0, w1, w2, w3, w4]; rfl) ?_ | refine AOps.s rfl rfl rfl ?_ | refine AOps.u rfl rfl rfl rfl (by simp only [evS, cond_tt, cond_ff, absV, depthV, Nat.reduceEqDiff, Nat.reduceLT, ↓reduceIte, Option.map_some, Option.bind_some, List.toList_toArray, Tryz.tw, H.lay, Nat.zero_add, Nat.add_zero, ↓reduceIte, List.getElem?_cons_zero, List.getElem?_cons_succ, hO2, w0, w1, w2, w3, w4]; rfl) ?_))
    refine AOps.c rfl rfl rfl rfl rfl (by simp only [callOf_val, callW_fn, evS, cond_tt, cond_ff, absV, depthV, Nat.reduceEqDiff, Nat.reduceLT, ↓reduceIte, Option.map_some, Option.bind_some, List.toList_toArray]; rfl) rfl (Tryz.amOk w.km _) ?_; rintro _ _ ⟨rfl, rfl⟩
    cases e4 : isAm w.km
    · have hbad : w.ok = false := by unfold Wy.ok; rw [e1, e2, e3, e4]; rfl
      (repeat (first | refine AOps.v rfl rfl rfl rfl rfl (by simp only [evS, cond_tt, cond_ff, absV, depthV, Nat.reduceEqDiff, Nat.reduceLT, ↓reduceIte, Option.map_some, Option.bind_some, List.toList_toArray, Tryz.tw, H.lay, Nat.zero_add, Nat.add_zero, ↓reduceIte, List.getElem?_cons_zero, List.getElem?_cons_succ, hO2, w0, w1, w2, w3, w4]; rfl) ?_ | refine AOps.s rfl rfl rfl ?_ | refine AOps.u rfl rfl rfl rfl (by simp only [evS, cond_tt, cond_ff, absV, depthV, Nat.reduceEqDiff, Nat.reduceLT, ↓reduceIte, Option.map_some, Option.bind_some, List.toList_toArray, Tryz.tw, H.lay, Nat.zero_add, Nat.add_zero, ↓reduceIte, List.getElem?_cons_zero, List.getElem?_cons_succ, hO2, w0, w1, w2, w3, w4]; rfl) ?_))
      refine AOps.nil ?_; show AWp _ _ _ _ _
      (repeat refine AWp.seq ?_); change AWp _ _ _ _ _; refine AWp.yes (by rfl) (by rfl) ?_
      (repeat refine AWp.seq ?_); change AWp _ _ _ _ _; refine AWp.region ?_; (repeat (first | refine AOps.v rfl rfl rfl rfl rfl (by simp only [evS, cond_tt, cond_ff, absV, depthV, Nat.reduceEqDiff, Nat.reduceLT, ↓reduceIte, Option.map_some, Option.bind_some, List.toList_toArray]; rfl) ?_ | refine AOps.s rfl rfl rfl ?_ | refine AOps.u rfl rfl rfl rfl (by simp only [evS, cond_tt, cond_ff, absV, depthV, Nat.reduceEqDiff, Nat.reduceLT, ↓reduceIte, Option.map_some, Option.bind_some, List.toList_toArray]; rfl) ?_)); refine AOps.nil ?_
      refine AWp.ret ?_
      (try simp only [OutOf, Then, Round, NoGoto]); refine leaves_plain (by rfl) (by rfl) (fun _ => rfl) (by rfl) ⟨?_, rfl⟩; rw [all_ok_false hwk hbad]; rfl
    cases e5 : decide (w.pct < 0)
    · cases e6 : decide (100 < w.pct)
      · have hgood : w.ok = true := by
          have e5' : decide (0 ≤ w.pct) = true := by simp only [decide_eq_false_iff_not, decide_eq_true_eq] at e5 ⊢; omega
          have e6' : decide (w.pct ≤ 100) = true := by simp only [decide_eq_false_iff_not, decide_eq_true_eq] at e6 ⊢; omega
          unfold Wy.ok; rw [e1, e2, e3, e4, e5', e6']; rfl
        (repeat (first | refine AOps.v rfl rfl rfl rfl rfl (by simp only [evS, cond_tt, cond_ff, absV, depthV, Nat.reduceEqDiff, Nat.reduceLT, ↓reduceIte, Option.map_some, Option.bind_some, List.toList_toArray, Tryz.tw, H.lay, Nat.zero_add, Nat.add_zero, ↓reduceIte, List.getElem?_cons_zero, List.getElem?_cons_succ, hO2, w0, w1, w2, w3, w4, e5, e6]; rfl) ?_ | refine AOps.s rfl rfl rfl ?_ | refine AOps.u rfl rfl rfl rfl (by simp only [evS, cond_tt, cond_ff, absV, depthV, Nat.reduceEqDiff, Nat.reduceLT, ↓reduceIte, Option.map_some, Option.bind_some, List.toList_toArray, Tryz.tw, H.lay, Nat.zero_add, Nat.add_zero, ↓reduceIte, List.getElem?_cons_zero, List.getElem?_cons_succ, hO2, w0, w1, w2, w3, w4, e5, e6]; rfl) ?_))
        refine AOps.nil ?_; show AWp _ _ _ _ _
        (repeat refine AWp.seq ?_); change AWp _ _ _ _ _; refine AWp.no (by rfl) (by rfl) (AWp.skip ?_)
        (repeat refine AWp.seq ?_); change AWp _ _ _ _ _; refine AWp.region ?_; (repeat (first | refine AOps.v rfl rfl rfl rfl rfl (by simp only [evS, cond_tt, cond_ff, absV, depthV, Nat.reduceEqDiff, Nat.reduceLT, ↓reduceIte, Option.map_some, Option.bind_some, List.toList_toArray, bin_add (show -9223372036854775808 ≤ (k : Int) + 1 ∧ (k : Int) + 1 ≤ 9223372036854775807 from ⟨by omega, by omega⟩)]; rfl) ?_ | refine AOps.s rfl rfl rfl ?_ | refine AOps.u rfl rfl rfl rfl (by simp only [evS, cond_tt, cond_ff, absV, depthV, Nat.reduceEqDiff, Nat.reduceLT, ↓reduceIte, Option.map_some, Option.bind_some, List.toList_toArray, bin_add (show -9223372036854775808 ≤ (k : Int) + 1 ∧ (k : Int) + 1 ≤ 9223372036854775807 from ⟨by omega, by omega⟩)]; rfl) ?_)); refine AOps.nil ?_
        refine ⟨ws.length - (k + 1), by omega, k + 1, kn + 1, O2, F2, by omega, rfl, fun i u hi hu => ?_, hov3, rfl, rfl, rfl, ?_⟩
        · by_cases hik : i = k
          · subst hik; rw [hwk] at hu; cases hu; exact hgood
          · exact hall i u (by omega) hu
        · simp only [Has, upd_eq]
          exact ⟨rfl, rfl, rfl, rfl, rfl, rfl, trivial⟩
      · have hbad : w.ok = false := by
          have e6' : decide (w.pct ≤ 100) = false := by simp only [decide_eq_false_iff_not, decide_eq_true_eq] at e6 ⊢; omega
          unfold Wy.ok; rw [e6']; simp
        (repeat (first | refine AOps.v rfl rfl rfl rfl rfl (by simp only [evS, cond_tt, cond_ff, absV, depthV, Nat.reduceEqDiff, Nat.reduceLT, ↓reduceIte, Option.map_some, Option.bind_some, List.toList_toArray, Tryz.tw, H.lay, Nat.zero_add, Nat.add_zero, ↓reduceIte, List.getElem?_cons_zero, List.getElem?_cons_succ, hO2, w0, w1, w2, w3, w4, e5, e6]; rfl) ?_ | refine AOps.s rfl rfl rfl ?_ | refine AOps.u rfl rfl rfl rfl (by simp only [evS, cond_tt, cond_ff, absV, depthV, Nat.reduceEqDiff, Nat.reduceLT, ↓reduceIte, Option.map_some, Option.bind_some, List.toList_toArray, Tryz.tw, H.lay, Nat.zero_add, Nat.add_zero, ↓reduceIte, List.getElem?_cons_zero, List.getElem?_cons_succ, hO2, w0, w1, w2, w3, w4, e5, e6]; rfl) ?_))
        refine AOps.nil ?_; show AWp _ _ _ _ _
        (repeat refine AWp.seq ?_); change AWp _ _ _ _ _; refine AWp.yes (by rfl) (by rfl) ?_
        (repeat refine AWp.seq ?_); change AWp _ _ _ _ _; refine AWp.region ?_; (repeat (first | refine AOps.v rfl rfl rfl rfl rfl (by simp only [evS, cond_tt, cond_ff, absV, depthV, Nat.reduceEqDiff, Nat.reduceLT, ↓reduceIte, Option.map_some, Option.bind_some, List.toList_toArray]; rfl) ?_ | refine AOps.s rfl rfl rfl ?_ | refine AOps.u rfl rfl rfl rfl (by simp only [evS, cond_tt, cond_ff, absV, depthV, Nat.reduceEqDiff, Nat.reduceLT, ↓reduceIte, Option.map_some, Option.bind_some, List.toList_toArray]; rfl) ?_)); refine AOps.nil ?_
        refine AWp.ret ?_
        (try simp only [OutOf, Then, Round, NoGoto]); refine leaves_plain (by rfl) (by rfl) (fun _ => rfl) (by rfl) ⟨?_, rfl⟩; rw [all_ok_false hwk hbad]; rfl
    · have hbad : w.ok = false := by
        have e5' : decide (0 ≤ w.pct) = false := by simp only [decide_eq_false_iff_not, decide_eq_true_eq] at e5 ⊢; omega
        unfold Wy.ok; rw [e5']; simp
      (repeat (first | refine AOps.v rfl rfl rfl rfl rfl (by simp only [evS, cond_tt, cond_ff, absV, depthV, Nat.reduceEqDiff, Nat.reduceLT, ↓reduceIte, Option.map_some, Option.bind_some, List.toList_toArray, Tryz.tw, H.lay, Nat.zero_add, Nat.add_zero, ↓reduceIte, List.getElem?_cons_zero, List.getElem?_cons_succ, hO2, w0, w1, w2, w3, w4, e5]; rfl) ?_ | refine AOps.s rfl rfl rfl ?_ | refine AOps.u rfl rfl rfl rfl (by simp only [evS, cond_tt, cond_ff, absV, depthV, Nat.reduceEqDiff, Nat.reduceLT, ↓reduceIte, Option.map_some, Option.bind_some, List.toList_toArray, Tryz.tw, H.lay, Nat.zero_add, Nat.add_zero, ↓reduceIte, List.getElem?_cons_zero, List.getElem?_cons_succ, hO2, w0, w1, w2, w3, w4, e5]; rfl) ?_))
      refine AOps.nil ?_; show AWp _ _ _ _ _
      (repeat refine AWp.seq ?_); change AWp _ _ _ _ _; refine AWp.yes (by rfl) (by rfl) ?_
      (repeat refine AWp.seq ?_); change AWp _ _ _ _ _; refine AWp.region ?_; (repeat (first | refine AOps.v rfl rfl rfl rfl rfl (by simp only [evS, cond_tt, cond_ff, absV, depthV, Nat.reduceEqDiff, Nat.reduceLT, ↓reduceIte, Option.map_some, Option.bind_some, List.toList_toArray]; rfl) ?_ | refine AOps.s rfl rfl rfl ?_ | refine AOps.u rfl rfl rfl rfl (by simp only [evS, cond_tt, cond_ff, absV, depthV, Nat.reduceEqDiff, Nat.reduceLT, ↓reduceIte, Option.map_some, Option.bind_some, List.toList_toArray]; rfl) ?_)); refine AOps.nil ?_
      refine AWp.ret ?_
      (try simp only [OutOf, Then, Round, NoGoto]); refine leaves_plain (by rfl) (by rfl) (fun _ => rfl) (by rfl) ⟨?_, rfl⟩; rw [all_ok_false hwk hbad]; rfl
  · have hkk : k = ws.length := by omega
    subst hkk
    have c1 : decide ((ws.length : Int) < (ws.length : Int)) = false := by simp
    have hallt : ws.all Wy.ok = true := by
      rw [List.all_eq_true]
      intro w hwm
      obtain ⟨i, hi⟩ := List.mem_iff_getElem?.1 hwm
      exact hall i w (idx_lt hi) hi
    have hr : rightB ws c = c.ok := by unfold rightB; rw [hallt]; rfl
    rw [hr]
    have q0 : c.cells[0]? = some (.str c.part) := rfl
    have q1 : c.cells[1]? = some (.str c.owner) := rfl
    have q2 : c.cells[2]? = some (.int .i64 c.day) := rfl
    have q3 : c.cells[3]? = some (.int .i64 c.am) := rfl
    (repeat refine AWp.seq ?_); change AWp _ _ _ _ _; refine AWp.region ?_; (repeat (first | refine AOps.v rfl rfl rfl rfl rfl (by simp only [evS, cond_tt, cond_ff, absV, depthV, Nat.reduceEqDiff, Nat.reduceLT, ↓reduceIte, Option.map_some, Option.bind_some, List.toList_toArray, c1]; rfl) ?_ | refine AOps.s rfl rfl rfl ?_ | refine AOps.u rfl rfl rfl rfl (by simp only [evS, cond_tt, cond_ff, absV, depthV, Nat.reduceEqDiff, Nat.reduceLT, ↓reduceIte, Option.map_some, Option.bind_some, List.toList_toArray, c1]; rfl) ?_)); refine AOps.nil ?_
    (repeat refine AWp.seq ?_); change AWp _ _ _ _ _; refine AWp.no (by rfl) (by rfl) ?_
    refine AWp.exit ?_
    (try simp only [OutOf, Then, Round, NoGoto, if_true])
    (repeat refine AWp.seq ?_); change AWp _ _ _ _ _; refine AWp.region ?_; (repeat (first | refine AOps.v rfl rfl rfl rfl rfl (by simp only [evS, cond_tt, cond_ff, absV, depthV, Nat.reduceEqDiff, Nat.reduceLT, ↓reduceIte, Option.map_some, Option.bind_some, List.toList_toArray, Tryz.tw, H.lay, Nat.zero_add, Nat.add_zero, ↓reduceIte, List.getElem?_cons_zero, List.getElem?_cons_succ, hcN, q0, q1, q2, q3]; rfl) ?_ | refine AOps.s rfl rfl rfl ?_ | refine AOps.u rfl rfl rfl rfl (by simp only [evS, cond_tt, cond_ff, absV, depthV, Nat.reduceEqDiff, Nat.reduceLT, ↓reduceIte, Option.map_some, Option.bind_some, List.toList_toArray, Tryz.tw, H.lay, Nat.zero_add, Nat.add_zero, ↓reduceIte, List.getElem?_cons_zero, List.getElem?_cons_succ, hcN, q0, q1, q2, q3]; rfl) ?_))
    refine AOps.c rfl rfl rfl rfl rfl (by simp only [callOf_val, callW_fn, evS, cond_tt, cond_ff, absV, depthV, Nat.reduceEqDiff, Nat.reduceLT, ↓reduceIte, Option.map_some, Option.bind_some, List.toList_toArray]; rfl) rfl (Tryz.lexName _ hc.p hc.pb _) ?_; rintro _ _ ⟨rfl, rfl⟩
    unfold Co.ok
    cases e1 : nameN c.part
    · (repeat (first | refine AOps.v rfl rfl rfl rfl rfl (by simp only [evS, cond_tt, cond_ff, absV, depthV, Nat.reduceEqDiff, Nat.reduceLT, ↓reduceIte, Option.map_some, Option.bind_some, List.toList_toArray, Tryz.tw, H.lay, Nat.zero_add, Nat.add_zero, ↓reduceIte, List.getElem?_cons_zero, List.getElem?_cons_succ, hcN, q0, q1, q2, q3]; rfl) ?_ | refine AOps.s rfl rfl rfl ?_ | refine AOps.u rfl rfl rfl rfl (by simp only [evS, cond_tt, cond_ff, absV, depthV, Nat.reduceEqDiff, Nat.reduceLT, ↓reduceIte, Option.map_some, Option.bind_some, List.toList_toArray, Tryz.tw, H.lay, Nat.zero_add, Nat.add_zero, ↓reduceIte, List.getElem?_cons_zero, List.getElem?_cons_succ, hcN, q0, q1, q2, q3]; rfl) ?_))
      refine AOps.nil (AWp.ret ?_)
      (try simp only [OutOf, Then, Round, NoGoto]); refine leaves_plain (by rfl) (by rfl) (fun _ => rfl) (by rfl) ⟨?_, rfl⟩; rfl
    (repeat (first | refine AOps.v rfl rfl rfl rfl rfl (by simp only [evS, cond_tt, cond_ff, absV, depthV, Nat.reduceEqDiff, Nat.reduceLT, ↓reduceIte, Option.map_some, Option.bind_some, List.toList_toArray, Tryz.tw, H.lay, Nat.zero_add, Nat.add_zero, ↓reduceIte, List.getElem?_cons_zero, List.getElem?_cons_succ, hcN, q0, q1, q2, q3]; rfl) ?_ | refine AOps.s rfl rfl rfl ?_ | refine AOps.u rfl rfl rfl rfl (by simp only [evS, cond_tt, cond_ff, absV, depthV, Nat.reduceEqDiff, Nat.reduceLT, ↓reduceIte, Option.map_some, Option.bind_some, List.toList_toArray, Tryz.tw, H.lay, Nat.zero_add, Nat.add_zero, ↓reduceIte, List.getElem?_cons_zero, List.getElem?_cons_succ, hcN, q0, q1, q2, q3]; rfl) ?_))
    refine AOps.c rfl rfl rfl rfl rfl (by simp only [callOf_val, callW_fn, evS, cond_tt, cond_ff, absV, depthV, Nat.reduceEqDiff, Nat.reduceLT, ↓reduceIte, Option.map_some, Option.bind_some, List.toList_toArray]; rfl) rfl (Tryz.lexName _ hc.o hc.ob _) ?_; rintro _ _ ⟨rfl, rfl⟩
    cases e2 : nameN c.owner
    · (repeat (first | refine AOps.v rfl rfl rfl rfl rfl (by simp only [evS, cond_tt, cond_ff, absV, depthV, Nat.reduceEqDiff, Nat.reduceLT, ↓reduceIte, Option.map_some, Option.bind_some, List.toList_toArray, Tryz.tw, H.lay, Nat.zero_add, Nat.add_zero, ↓reduceIte, List.getElem?_cons_zero, List.getElem?_cons_succ, hcN, q0, q1, q2, q3]; rfl) ?_ | refine AOps.s rfl rfl rfl ?_ | refine AOps.u rfl rfl rfl rfl (by simp only [evS, cond_tt, cond_ff, absV, depthV, Nat.reduceEqDiff, Nat.reduceLT, ↓reduceIte, Option.map_some, Option.bind_some, List.toList_toArray, Tryz.tw, H.lay, Nat.zero_add, Nat.add_zero, ↓reduceIte, List.getElem?_cons_zero, List.getElem?_cons_succ, hcN, q0, q1, q2, q3]; rfl) ?_))
      refine AOps.nil (AWp.ret ?_)
      (try simp only [OutOf, Then, Round, NoGoto]); refine leaves_plain (by rfl) (by rfl) (fun _ => rfl) (by rfl) ⟨?_, rfl⟩; rfl
    (repeat (first | refine AOps.v rfl rfl rfl rfl rfl (by simp only [evS, cond_tt, cond_ff, absV, depthV, Nat.reduceEqDiff, Nat.reduceLT, ↓reduceIte, Option.map_some, Option.bind_some, List.toList_toArray, Tryz.tw, H.lay, Nat.zero_add, Nat.add_zero, ↓reduceIte, List.getElem?_cons_zero, List.getElem?_cons_succ, hcN, q0, q1, q2, q3]; rfl) ?_ | refine AOps.s rfl rfl rfl ?_ | refine AOps.u rfl rfl rfl rfl (by simp only [evS, cond_tt, cond_ff, absV, depthV, Nat.reduceEqDiff, Nat.reduceLT, ↓reduceIte, Option.map_some, Option.bind_some, List.toList_toArray, Tryz.tw, H.lay, Nat.zero_add, Nat.add_zero, ↓reduceIte, List.getElem?_cons_zero, List.getElem?_cons_succ, hcN, q0, q1, q2, q3]; rfl) ?_))
    refine AOps.c rfl rfl rfl rfl rfl (by simp only [callOf_val, callW_fn, evS, cond_tt, cond_ff, absV, depthV, Nat.reduceEqDiff, Nat.reduceLT, ↓reduceIte, Option.map_some, Option.bind_some, List.toList_toArray]; rfl) rfl (Tryz.dayOk c.day _) ?_; rintro _ _ ⟨rfl, rfl⟩
    cases e3 : isDy c.day
    · (repeat (first | refine AOps.v rfl rfl rfl rfl rfl (by simp only [evS, cond_tt, cond_ff, absV, depthV, Nat.reduceEqDiff, Nat.reduceLT, ↓reduceIte, Option.map_some, Option.bind_some, List.toList_toArray, Tryz.tw, H.lay, Nat.zero_add, Nat.add_zero, ↓reduceIte, List.getElem?_cons_zero, List.getElem?_cons_succ, hcN, q0, q1, q2, q3]; rfl) ?_ | refine AOps.s rfl rfl rfl ?_ | refine AOps.u rfl rfl rfl rfl (by simp only [evS, cond_tt, cond_ff, absV, depthV, Nat.reduceEqDiff, Nat.reduceLT, ↓reduceIte, Option.map_some, Option.bind_some, List.toList_toArray, Tryz.tw, H.lay, Nat.zero_add, Nat.add_zero, ↓reduceIte, List.getElem?_cons_zero, List.getElem?_cons_succ, hcN, q0, q1, q2, q3]; rfl) ?_))
      refine AOps.nil (AWp.ret ?_)
      (try simp only [OutOf, Then, Round, NoGoto]); refine leaves_plain (by rfl) (by rfl) (fun _ => rfl) (by rfl) ⟨?_, rfl⟩; rfl
    (repeat (first | refine AOps.v rfl rfl rfl rfl rfl (by simp only [evS, cond_tt, cond_ff, absV, depthV, Nat.reduceEqDiff, Nat.reduceLT, ↓reduceIte, Option.map_some, Option.bind_some, List.toList_toArray, Tryz.tw, H.lay, Nat.zero_add, Nat.add_zero, ↓reduceIte, List.getElem?_cons_zero, List.getElem?_cons_succ, hcN, q0, q1, q2, q3]; rfl) ?_ | refine AOps.s rfl rfl rfl ?_ | refine AOps.u rfl rfl rfl rfl (by simp only [evS, cond_tt, cond_ff, absV, depthV, Nat.reduceEqDiff, Nat.reduceLT, ↓reduceIte, Option.map_some, Option.bind_some, List.toList_toArray, Tryz.tw, H.lay, Nat.zero_add, Nat.add_zero, ↓reduceIte, List.getElem?_cons_zero, List.getElem?_cons_succ, hcN, q0, q1, q2, q3]; rfl) ?_))
    refine AOps.c rfl rfl rfl rfl rfl (by simp only [callOf_val, callW_fn, evS, cond_tt, cond_ff, absV, depthV, Nat.reduceEqDiff, Nat.reduceLT, ↓reduceIte, Option.map_some, Option.bind_some, List.toList_toArray]; rfl) rfl (Tryz.amOk c.am _) ?_; rintro _ _ ⟨rfl, rfl⟩
    cases e4 : isAm c.am
    all_goals
      (repeat (first | refine AOps.v rfl rfl rfl rfl rfl (by simp only [evS, cond_tt, cond_ff, absV, depthV, Nat.reduceEqDiff, Nat.reduceLT, ↓reduceIte, Option.map_some, Option.bind_some, List.toList_toArray, Tryz.tw, H.lay, Nat.zero_add, Nat.add_zero, ↓reduceIte, List.getElem?_cons_zero, List.getElem?_cons_succ, hcN, q0, q1, q2, q3]; rfl) ?_ | refine AOps.s rfl rfl rfl ?_ | refine AOps.u rfl rfl rfl rfl (by simp only [evS, cond_tt, cond_ff, absV, depthV, Nat.reduceEqDiff, Nat.reduceLT, ↓reduceIte, Option.map_some, Option.bind_some, List.toList_toArray, Tryz.tw, H.lay, Nat.zero_add, Nat.add_zero, ↓reduceIte, List.getElem?_cons_zero, List.getElem?_cons_succ, hcN, q0, q1, q2, q3]; rfl) ?_))
      refine AOps.nil (AWp.ret ?_)
      (try simp only [OutOf, Then, Round, NoGoto]); refine leaves_plain (by rfl) (by rfl) (fun _ => rfl) (by rfl) ⟨?_, rfl⟩; rfl

end Go.Proofs

/- Seat r1: a part found; its age. No conditions beyond those that each theorem states. -/
namespace Go.Proofs
open Go.Ev
set_option maxRecDepth 100000

def findP (ps : List Pt) (name : List Nat) : Option Pt := ps.find? fun p => decide (p.name = name)

/-- What fleet.Find hands back. -/
def FindQ (ps : List Pt) (name : List Nat) (h : H) (v : AV) (h' : H) : Prop := Over h.next h h' ∧ match findP ps name with
  | some p => v = .tup [.agg p.cells, .bool true]
  | none => v = .tup [.agg Pt.zero.cells, .bool false]

theorem pt_c0 (p : Pt) : p.cells[0]? = some (.str p.name) := rfl
theorem pt_chunk (p : Pt) : chunkL p.cells 0 14 = some p.cells := rfl
theorem pt_len (p : Pt) : p.cells.length = 14 := rfl

set_option maxHeartbeats 4000000 in
theorem Tryz.find (ps : List Pt) (name : List Nat) (hlen : ps.length ≤ 100000) (v : AV) (h : H) (hv : RdS h v 14 (ps.map Pt.cells)) (hv1 : v.cells = [v]) (hone : ∀ p ∈ ps, oneC p.props = true) :
    ACalls Tryz.prog (.func 66) [.agg [v], .str name] h (FindQ ps name h) := by
  refine ACalls.body (n := 22) Tryz.nogo Tryz.func66 rfl rfl ?_
  rw [argF2]
  obtain ⟨lo, le, lc, rfl⟩ := hv.len
  rw [List.length_map] at hv ⊢
  have hv0 : RdS ⟨h.objs, h.fams, h.next, h.next⟩ (.slice lo ps.length le lc) 14 (ps.map Pt.cells) := ⟨hv.wide, hv.at'⟩
  (repeat refine AWp.seq ?_); change AWp _ _ _ _ _; refine AWp.region ?_; (repeat (first | refine AOps.v rfl rfl rfl rfl rfl (by simp only [evS, cond_tt, cond_ff, absV, depthV, Nat.reduceEqDiff, Nat.reduceLT, ↓reduceIte, Option.map_some, Option.bind_some, List.toList_toArray, op_box, H.lay, Tryz.zero90]; rfl) ?_ | refine AOps.s rfl rfl rfl ?_ | refine AOps.u rfl rfl rfl rfl (by simp only [evS, cond_tt, cond_ff, absV, depthV, Nat.reduceEqDiff, Nat.reduceLT, ↓reduceIte, Option.map_some, Option.bind_some, List.toList_toArray, op_box, H.lay, Tryz.zero90]; rfl) ?_)); refine AOps.nil ?_
  obtain ⟨O2, hO2⟩ : ∃ X, X = Tr.put (Tr.put h.objs h.next (some (.cells [.slice lo ps.length le lc] h.next))) (h.next + 1) (some (.cells Pt.zero.cells (h.next + 1))) := ⟨_, rfl⟩
  obtain ⟨F2, hF2⟩ : ∃ X, X = Tr.put (Tr.put h.fams h.next (some (h.next, h.next))) (h.next + 1) (some (h.next + 1, h.next + 1)) := ⟨_, rfl⟩
  rw [← hO2, ← hF2]
  have g0 : rowO O2 h.next = some [.slice lo ps.length le lc] := by unfold rowO; rw [hO2, put_other _ _ (by omega), put_same]; rfl
  have g1 : O2.get (h.next + 1) = some (.cells Pt.zero.cells (h.next + 1)) := by rw [hO2]; exact put_same _ _ _
  have g2 : F2.get (h.next + 1) = some (h.next + 1, h.next + 1) := by rw [hF2]; exact put_same _ _ _
  have gold : ∀ j, j < h.next → O2.get j = h.objs.get j := fun j hj => by rw [hO2, put_other _ _ (by omega), put_other _ _ (by omega)]
  have gfold : ∀ j, j < h.next → F2.get j = h.fams.get j := fun j hj => by rw [hF2, put_other _ _ (by omega), put_other _ _ (by omega)]
  (repeat refine AWp.seq ?_); change AWp _ _ _ _ _; refine AWp.region ?_; (repeat (first | refine AOps.v rfl rfl rfl rfl rfl (by simp only [evS, cond_tt, cond_ff, absV, depthV, Nat.reduceEqDiff, Nat.reduceLT, ↓reduceIte, Option.map_some, Option.bind_some, List.toList_toArray, Tryz.tw, H.lay, Nat.zero_add, Nat.add_zero, ↓reduceIte, List.getElem?_cons_zero, List.getElem?_cons_succ, g0]; rfl) ?_ | refine AOps.s rfl rfl rfl ?_ | refine AOps.u rfl rfl rfl rfl (by simp only [evS, cond_tt, cond_ff, absV, depthV, Nat.reduceEqDiff, Nat.reduceLT, ↓reduceIte, Option.map_some, Option.bind_some, List.toList_toArray, Tryz.tw, H.lay, Nat.zero_add, Nat.add_zero, ↓reduceIte, List.getElem?_cons_zero, List.getElem?_cons_succ, g0]; rfl) ?_)); refine AOps.nil ?_
  refine AWp.block (AWp.loop (fun m st => ∃ (k kn : Nat) (o : Tr AO) (fm : Tr (Nat × Nat)), k ≤ ps.length ∧ m = ps.length - k ∧ (∀ i p, i < k → ps[i]? = some p → p.name ≠ name) ∧ Over (h.next + 2) ⟨O2, F2, h.next + 2, h.next⟩ ⟨o, fm, kn, h.next⟩ ∧
    Fr st [(1, .str name), (4, .ptr (some (h.next + 1, 0))), (9, .slice lo ps.length le lc), (10, .int .i64 (ps.length : Int)), (11, .int .i64 (k : Int))] 22 ⟨o, fm, kn, h.next⟩ []) ps.length ?_ ?_)
  · exact ⟨0, h.next + 2, _, _, by omega, by omega, fun i w hi => by omega, Over.refl _ _, rfl, rfl, rfl, rfl, rfl, rfl, rfl, rfl, trivial⟩
  rintro m st ⟨k, kn, o, fm, hk, rfl, hall, hov, hF⟩
  obtain ⟨f, rfl⟩ := hF.open
  clear hF
  simp only [updL]
  have hkn : h.next + 2 ≤ kn := hov.next
  have hold : ∀ j, j < h.next → o.get j = h.objs.get j := fun j hj => by rw [hov.objs j (by omega)]; exact gold j hj
  have hfold : ∀ j, j < h.next → fm.get j = h.fams.get j := fun j hj => by rw [hov.fams j (by omega)]; exact gfold j hj
  have g4 : o.get (h.next + 1) = some (.cells Pt.zero.cells (h.next + 1)) := by rw [hov.objs _ (by omega)]; exact g1
  have f4 : fm.get (h.next + 1) = some (h.next + 1, h.next + 1) := by rw [hov.fams _ (by omega)]; exact g2
  have hzc : chunkL Pt.zero.cells 0 14 = some Pt.zero.cells := rfl
  by_cases hlt : k < ps.length
  · have c1 : decide ((k : Int) < (ps.length : Int)) = true := by simp only [decide_eq_true_eq]; omega
    obtain ⟨p, hpk⟩ : ∃ p, ps[k]? = some p := ⟨ps[k], List.getElem?_eq_getElem hlt⟩
    have hpo := hone p (List.mem_of_getElem? hpk)
    have hpone : p.cells.all oneC = true := by simp only [Pt.cells, List.all_cons, List.all_nil, hpo]; rfl
    obtain ⟨id, off, cap, cs, hv', hid, hrow0, hcl, hch, hcell⟩ := hv0.open (i := k) (by rw [List.length_map]; exact hlt)
    rw [List.length_map] at hv'
    cases hv'
    simp only at hrow0 hid
    have kc := hch _ _ (rowsP_get ps hpk)
    have hrow : rowO o id = some cs := by unfold rowO; rw [hold id hid]; exact hrow0
    (repeat refine AWp.seq ?_); change AWp _ _ _ _ _; refine AWp.region ?_; (repeat (first | refine AOps.v rfl rfl rfl rfl rfl (by simp only [evS, cond_tt, cond_ff, absV, depthV, Nat.reduceEqDiff, Nat.reduceLT, ↓reduceIte, Option.map_some, Option.bind_some, List.toList_toArray, c1]; rfl) ?_ | refine AOps.s rfl rfl rfl ?_ | refine AOps.u rfl rfl rfl rfl (by simp only [evS, cond_tt, cond_ff, absV, depthV, Nat.reduceEqDiff, Nat.reduceLT, ↓reduceIte, Option.map_some, Option.bind_some, List.toList_toArray, c1]; rfl) ?_)); refine AOps.nil ?_
    (repeat refine AWp.seq ?_); change AWp _ _ _ _ _; refine AWp.yes (by rfl) (by rfl) (AWp.skip ?_)
    (repeat refine AWp.seq ?_)
    refine AWp.block ?_
    (repeat refine AWp.seq ?_)
    refine AWp.region ?_
    (repeat (first | refine AOps.v rfl rfl rfl rfl rfl (by simp only [evS, cond_tt, cond_ff, absV, depthV, Nat.reduceEqDiff, Nat.reduceLT, ↓reduceIte, Option.map_some, Option.bind_some, List.toList_toArray, Tryz.tw, H.lay, Nat.zero_add, Nat.add_zero, ↓reduceIte, List.getElem?_cons_zero, List.getElem?_cons_succ, iaddr_slice Tryz.underlying23 Tryz.size90 hlt, hrow, kc, Tryz.zero90]; rfl) ?_ | refine AOps.s rfl rfl rfl ?_ | refine AOps.u rfl rfl rfl rfl (by simp only [evS, cond_tt, cond_ff, absV, depthV, Nat.reduceEqDiff, Nat.reduceLT, ↓reduceIte, Option.map_some, Option.bind_some, List.toList_toArray, Tryz.tw, H.lay, Nat.zero_add, Nat.add_zero, ↓reduceIte, List.getElem?_cons_zero, List.getElem?_cons_succ, iaddr_slice Tryz.underlying23 Tryz.size90 hlt, hrow, kc, Tryz.zero90]; rfl) ?_))
    refine AOps.st rfl rfl rfl (by simp only [evS, cond_tt, cond_ff, absV, depthV, Nat.reduceEqDiff, Nat.reduceLT, ↓reduceIte, Option.map_some, Option.bind_some, List.toList_toArray]; rfl) (by simp only [evS, cond_tt, cond_ff, absV, depthV, Nat.reduceEqDiff, Nat.reduceLT, ↓reduceIte, Option.map_some, Option.bind_some, List.toList_toArray]; rfl) (by exact Tryz.size90) (by simp only [put_get]; rfl) (by simp only [put_get]; rfl) (by rfl) (by exact hpone) (cs' := p.cells) (by rfl) (minN_left (show h.next ≤ kn by omega)) ?_
    refine AOps.nil ?_
    have hR3 : rowO (Tr.put (Tr.put o kn (some (.cells Pt.zero.cells kn))) kn (some (.cells p.cells kn))) kn = some p.cells := by rw [rowO_put, if_pos rfl]; rfl
    have hov2 : Over (h.next + 2) ⟨o, fm, kn, h.next⟩ ⟨Tr.put (Tr.put o kn (some (.cells Pt.zero.cells kn))) kn (some (.cells p.cells kn)), Tr.put fm kn (some (kn, kn)), kn + 1, h.next⟩ :=
      ⟨Nat.le_succ _, fun j hj => by show (Tr.put (Tr.put o kn _) kn _).get j = _; rw [put_other _ _ (by omega), put_other _ _ (by omega)], fun j hj => by show (Tr.put fm kn _).get j = _; rw [put_other _ _ (by omega)], fun _ => rfl⟩
    have hov3 := hov.trans hov2
    simp only [AV.cells]
    generalize Tr.put (Tr.put o kn (some (.cells Pt.zero.cells kn))) kn (some (.cells p.cells kn)) = O3 at hR3 hov2 hov3 ⊢
    generalize Tr.put fm kn (some (kn, kn)) = F3 at hov2 hov3 ⊢
    have q0 := pt_c0 p
    have q14 := pt_chunk p
    cases e1 : decide (p.name = name)
    · (repeat refine AWp.seq ?_); change AWp _ _ _ _ _; refine AWp.region ?_; (repeat (first | refine AOps.v rfl rfl rfl rfl rfl (by simp only [evS, cond_tt, cond_ff, absV, depthV, Nat.reduceEqDiff, Nat.reduceLT, ↓reduceIte, Option.map_some, Option.bind_some, List.toList_toArray, Tryz.tw, H.lay, Nat.zero_add, Nat.add_zero, ↓reduceIte, List.getElem?_cons_zero, List.getElem?_cons_succ, hR3, q0, e1]; rfl) ?_ | refine AOps.s rfl rfl rfl ?_ | refine AOps.u rfl rfl rfl rfl (by simp only [evS, cond_tt, cond_ff, absV, depthV, Nat.reduceEqDiff, Nat.reduceLT, ↓reduceIte, Option.map_some, Option.bind_some, List.toList_toArray, Tryz.tw, H.lay, Nat.zero_add, Nat.add_zero, ↓reduceIte, List.getElem?_cons_zero, List.getElem?_cons_succ, hR3, q0, e1]; rfl) ?_)); refine AOps.nil ?_
      (repeat refine AWp.seq ?_); change AWp _ _ _ _ _; refine AWp.no (by rfl) (by rfl) (AWp.skip ?_)
      (repeat refine AWp.seq ?_); change AWp _ _ _ _ _; refine AWp.region ?_; (repeat (first | refine AOps.v rfl rfl rfl rfl rfl (by simp only [evS, cond_tt, cond_ff, absV, depthV, Nat.reduceEqDiff, Nat.reduceLT, ↓reduceIte, Option.map_some, Option.bind_some, List.toList_toArray, bin_add (show -9223372036854775808 ≤ (k : Int) + 1 ∧ (k : Int) + 1 ≤ 9223372036854775807 from ⟨by omega, by omega⟩)]; rfl) ?_ | refine AOps.s rfl rfl rfl ?_ | refine AOps.u rfl rfl rfl rfl (by simp only [evS, cond_tt, cond_ff, absV, depthV, Nat.reduceEqDiff, Nat.reduceLT, ↓reduceIte, Option.map_some, Option.bind_some, List.toList_toArray, bin_add (show -9223372036854775808 ≤ (k : Int) + 1 ∧ (k : Int) + 1 ≤ 9223372036854775807 from ⟨by omega, by omega⟩)]; rfl) ?_)); refine AOps.nil ?_
      refine ⟨ps.length - (k + 1), by omega, k + 1, kn + 1, O3, F3, by omega, rfl, fun i u hi hu => ?_, hov3, rfl, rfl, rfl, ?_⟩
      · by_cases hik : i = k
        · subst hik; rw [hpk] at hu; cases hu; simpa using e1
        · exact hall i u (by omega) hu
      · simp only [Has, upd_eq]
        exact ⟨rfl, rfl, rfl, rfl, rfl, trivial⟩
    · have hfind : findP ps name = some p := by
        unfold findP
        rw [List.find?_eq_some_iff_getElem]
        refine ⟨e1, k, hlt, ?_, fun j hj => ?_⟩
        · rw [List.getElem?_eq_getElem hlt] at hpk; exact Option.some.inj hpk
        · have := hall j ps[j] hj (List.getElem?_eq_getElem (by omega))
          simp [this]
      (repeat refine AWp.seq ?_); change AWp _ _ _ _ _; refine AWp.region ?_; (repeat (first | refine AOps.v rfl rfl rfl rfl rfl (by simp only [evS, cond_tt, cond_ff, absV, depthV, Nat.reduceEqDiff, Nat.reduceLT, ↓reduceIte, Option.map_some, Option.bind_some, List.toList_toArray, Tryz.tw, H.lay, Nat.zero_add, Nat.add_zero, ↓reduceIte, List.getElem?_cons_zero, List.getElem?_cons_succ, hR3, q0, e1]; rfl) ?_ | refine AOps.s rfl rfl rfl ?_ | refine AOps.u rfl rfl rfl rfl (by simp only [evS, cond_tt, cond_ff, absV, depthV, Nat.reduceEqDiff, Nat.reduceLT, ↓reduceIte, Option.map_some, Option.bind_some, List.toList_toArray, Tryz.tw, H.lay, Nat.zero_add, Nat.add_zero, ↓reduceIte, List.getElem?_cons_zero, List.getElem?_cons_succ, hR3, q0, e1]; rfl) ?_)); refine AOps.nil ?_
      (repeat refine AWp.seq ?_); change AWp _ _ _ _ _; refine AWp.yes (by rfl) (by rfl) ?_
      have g5 : O3.get (h.next + 1) = some (.cells Pt.zero.cells (h.next + 1)) := by rw [hov2.objs _ (by omega)]; exact g4
      have f5 : F3.get (h.next + 1) = some (h.next + 1, h.next + 1) := by rw [hov2.fams _ (by omega)]; exact f4
      (repeat refine AWp.seq ?_)
      refine AWp.region ?_
      (repeat (first | refine AOps.v rfl rfl rfl rfl rfl (by simp only [evS, cond_tt, cond_ff, absV, depthV, Nat.reduceEqDiff, Nat.reduceLT, ↓reduceIte, Option.map_some, Option.bind_some, List.toList_toArray, Tryz.tw, H.lay, Nat.zero_add, Nat.add_zero, ↓reduceIte, List.getElem?_cons_zero, List.getElem?_cons_succ, hR3, q14]; rfl) ?_ | refine AOps.s rfl rfl rfl ?_ | refine AOps.u rfl rfl rfl rfl (by simp only [evS, cond_tt, cond_ff, absV, depthV, Nat.reduceEqDiff, Nat.reduceLT, ↓reduceIte, Option.map_some, Option.bind_some, List.toList_toArray, Tryz.tw, H.lay, Nat.zero_add, Nat.add_zero, ↓reduceIte, List.getElem?_cons_zero, List.getElem?_cons_succ, hR3, q14]; rfl) ?_))
      refine AOps.st rfl rfl rfl (by simp only [evS, cond_tt, cond_ff, absV, depthV, Nat.reduceEqDiff, Nat.reduceLT, ↓reduceIte, Option.map_some, Option.bind_some, List.toList_toArray]; rfl) (by simp only [evS, cond_tt, cond_ff, absV, depthV, Nat.reduceEqDiff, Nat.reduceLT, ↓reduceIte, Option.map_some, Option.bind_some, List.toList_toArray]; rfl) (by exact Tryz.size90) g5 f5 (by rfl) (by exact hpone) (cs' := p.cells) (by rfl) (minN_left (show h.next ≤ h.next + 1 by omega)) ?_
      (repeat (first | refine AOps.v rfl rfl rfl rfl rfl (by simp only [evS, cond_tt, cond_ff, absV, depthV, Nat.reduceEqDiff, Nat.reduceLT, ↓reduceIte, Option.map_some, Option.bind_some, List.toList_toArray]; rfl) ?_ | refine AOps.s rfl rfl rfl ?_ | refine AOps.u rfl rfl rfl rfl (by simp only [evS, cond_tt, cond_ff, absV, depthV, Nat.reduceEqDiff, Nat.reduceLT, ↓reduceIte, Option.map_some, Option.bind_some, List.toList_toArray]; rfl) ?_))
      refine AOps.nil ?_
      refine AWp.ret ?_
      (try simp only [OutOf, Then, Round, NoGoto])
      have hR6 : rowO (Tr.put O3 (h.next + 1) (some (.cells p.cells (h.next + 1)))) (h.next + 1) = some p.cells := by rw [rowO_put, if_pos rfl]; rfl
      refine ⟨rfl, _, rfl, .tup [.agg p.cells, .bool true], ?_, .inl ⟨⟨by show h.next ≤ kn + 1; omega, fun j hj => ?_, fun j hj => ?_, fun hl => minN_left hl⟩, ?_⟩⟩
      · show resultsA _ _ _ [ResultVar.cell 4 90, ResultVar.tmp 5] = _
        simp only [resultsA, List.mapM_cons, List.mapM_nil, evS, cond_tt, cond_ff, absV, depthV, Nat.reduceEqDiff, Nat.reduceLT, ↓reduceIte, Option.map_some, Option.bind_some, List.toList_toArray, Tryz.tw, H.lay, Nat.zero_add, Nat.add_zero, ↓reduceIte, List.getElem?_cons_zero, List.getElem?_cons_succ, hR6, q14]
        rfl
      · show (Tr.put O3 (h.next + 1) _).get j = _
        rw [put_other _ _ (by omega), hov2.objs j (by omega)]; exact hold j hj
      · show F3.get j = _
        rw [hov2.fams j (by omega)]; exact hfold j hj
      · rw [hfind]
  · have hkk : k = ps.length := by omega
    subst hkk
    have c1 : decide ((ps.length : Int) < (ps.length : Int)) = false := by simp
    have hfind : findP ps name = none := by
      unfold findP
      rw [List.find?_eq_none]
      intro p hp
      obtain ⟨i, hi⟩ := List.mem_iff_getElem?.1 hp
      simp [hall i p (idx_lt hi) hi]
    (repeat refine AWp.seq ?_); change AWp _ _ _ _ _; refine AWp.region ?_; (repeat (first | refine AOps.v rfl rfl rfl rfl rfl (by simp only [evS, cond_tt, cond_ff, absV, depthV, Nat.reduceEqDiff, Nat.reduceLT, ↓reduceIte, Option.map_some, Option.bind_some, List.toList_toArray, c1]; rfl) ?_ | refine AOps.s rfl rfl rfl ?_ | refine AOps.u rfl rfl rfl rfl (by simp only [evS, cond_tt, cond_ff, absV, depthV, Nat.reduceEqDiff, Nat.reduceLT, ↓reduceIte, Option.map_some, Option.bind_some, List.toList_toArray, c1]; rfl) ?_)); refine AOps.nil ?_
    (repeat refine AWp.seq ?_); change AWp _ _ _ _ _; refine AWp.no (by rfl) (by rfl) ?_
    refine AWp.exit ?_
    (try simp only [OutOf, Then, Round, NoGoto, if_true])
    (repeat refine AWp.seq ?_)
    refine AWp.region ?_
    (repeat (first | refine AOps.v rfl rfl rfl rfl rfl (by simp only [evS, cond_tt, cond_ff, absV, depthV, Nat.reduceEqDiff, Nat.reduceLT, ↓reduceIte, Option.map_some, Option.bind_some, List.toList_toArray, op_build, partsA_nil, build43e]; rfl) ?_ | refine AOps.s rfl rfl rfl ?_ | refine AOps.u rfl rfl rfl rfl (by simp only [evS, cond_tt, cond_ff, absV, depthV, Nat.reduceEqDiff, Nat.reduceLT, ↓reduceIte, Option.map_some, Option.bind_some, List.toList_toArray, op_build, partsA_nil, build43e]; rfl) ?_))
    refine AOps.st rfl rfl rfl (by simp only [evS, cond_tt, cond_ff, absV, depthV, Nat.reduceEqDiff, Nat.reduceLT, ↓reduceIte, Option.map_some, Option.bind_some, List.toList_toArray]; rfl) (by simp only [evS, cond_tt, cond_ff, absV, depthV, Nat.reduceEqDiff, Nat.reduceLT, ↓reduceIte, Option.map_some, Option.bind_some, List.toList_toArray]; rfl) (by exact Tryz.size90) g4 f4 (by rfl) (by rfl) (cs' := Pt.zero.cells) (by rfl) (minN_left (show h.next ≤ h.next + 1 by omega)) ?_
    (repeat (first | refine AOps.v rfl rfl rfl rfl rfl (by simp only [evS, cond_tt, cond_ff, absV, depthV, Nat.reduceEqDiff, Nat.reduceLT, ↓reduceIte, Option.map_some, Option.bind_some, List.toList_toArray]; rfl) ?_ | refine AOps.s rfl rfl rfl ?_ | refine AOps.u rfl rfl rfl rfl (by simp only [evS, cond_tt, cond_ff, absV, depthV, Nat.reduceEqDiff, Nat.reduceLT, ↓reduceIte, Option.map_some, Option.bind_some, List.toList_toArray]; rfl) ?_))
    refine AOps.nil ?_
    refine AWp.ret ?_
    (try simp only [OutOf, Then, Round, NoGoto])
    have hR6 : rowO (Tr.put o (h.next + 1) (some (.cells Pt.zero.cells (h.next + 1)))) (h.next + 1) = some Pt.zero.cells := by rw [rowO_put, if_pos rfl]; rfl
    refine ⟨rfl, _, rfl, .tup [.agg Pt.zero.cells, .bool false], ?_, .inl ⟨⟨by show h.next ≤ kn; omega, fun j hj => ?_, fun j hj => ?_, fun hl => minN_left hl⟩, ?_⟩⟩
    · show resultsA _ _ _ [ResultVar.cell 4 90, ResultVar.tmp 5] = _
      simp only [resultsA, List.mapM_cons, List.mapM_nil, evS, cond_tt, cond_ff, absV, depthV, Nat.reduceEqDiff, Nat.reduceLT, ↓reduceIte, Option.map_some, Option.bind_some, List.toList_toArray, Tryz.tw, H.lay, Nat.zero_add, Nat.add_zero, ↓reduceIte, List.getElem?_cons_zero, List.getElem?_cons_succ, hR6, hzc]
      rfl
    · show (Tr.put o (h.next + 1) _).get j = _
      rw [put_other _ _ (by omega)]; exact hold j hj
    · exact hfold j hj
    · rw [hfind]

/-- The days between two, at most so many. -/
def sinceN (day fr : Int) : Int := if day ≤ fr then 0 else day - (if day - 1000000000000 ≤ fr then fr else day - 1000000000000)

set_option maxHeartbeats 1000000 in
theorem Tryz.since (day fr : Int) (hd : 0 ≤ day ∧ day ≤ 40000) (h : H) : ACalls Tryz.prog (.func 190) [.int .i64 day, .int .i64 fr] h (fun v h' => v = .agg [.int .i64 (sinceN day fr), .int .i64 (sinceN day fr)] ∧ h' = h) := by
  refine ACalls.body (n := 19) Tryz.nogo Tryz.func190 rfl rfl ?_
  rw [argF2]
  have hch : ∀ a b : Int, chunkL [.int .i64 a, .int .i64 b] 0 2 = some [.int .i64 a, .int .i64 b] := fun _ _ => rfl
  (repeat refine AWp.seq ?_); change AWp _ _ _ _ _; refine AWp.region ?_; (repeat (first | refine AOps.v rfl rfl rfl rfl rfl (by simp only [evS, cond_tt, cond_ff, absV, depthV, Nat.reduceEqDiff, Nat.reduceLT, ↓reduceIte, Option.map_some, Option.bind_some, List.toList_toArray, Tryz.zero79, H.lay]; rfl) ?_ | refine AOps.s rfl rfl rfl ?_ | refine AOps.u rfl rfl rfl rfl (by simp only [evS, cond_tt, cond_ff, absV, depthV, Nat.reduceEqDiff, Nat.reduceLT, ↓reduceIte, Option.map_some, Option.bind_some, List.toList_toArray, Tryz.zero79, H.lay]; rfl) ?_)); refine AOps.nil ?_
  cases e1 : decide (day ≤ fr)
  · (repeat refine AWp.seq ?_); change AWp _ _ _ _ _; refine AWp.region ?_; (repeat (first | refine AOps.v rfl rfl rfl rfl rfl (by simp only [evS, cond_tt, cond_ff, absV, depthV, Nat.reduceEqDiff, Nat.reduceLT, ↓reduceIte, Option.map_some, Option.bind_some, List.toList_toArray, e1]; rfl) ?_ | refine AOps.s rfl rfl rfl ?_ | refine AOps.u rfl rfl rfl rfl (by simp only [evS, cond_tt, cond_ff, absV, depthV, Nat.reduceEqDiff, Nat.reduceLT, ↓reduceIte, Option.map_some, Option.bind_some, List.toList_toArray, e1]; rfl) ?_)); refine AOps.nil ?_
    (repeat refine AWp.seq ?_); change AWp _ _ _ _ _; refine AWp.no (by rfl) (by rfl) (AWp.skip ?_)
    have hs : sinceN day fr = day - (if day - 1000000000000 ≤ fr then fr else day - 1000000000000) := by
      unfold sinceN; rw [if_neg (by simpa using e1)]
    have hs2 : 0 ≤ sinceN day fr ∧ sinceN day fr ≤ 1000000000000 := by
      rw [hs]; simp only [decide_eq_false_iff_not] at e1; split <;> omega
    have hb := bin_sub (P := Tryz.prog) (t := 3) (a := day) (b := 1000000000000) ⟨by omega, by omega⟩
    have hb2 : binA Tryz.prog .sub 3 (.int .i64 day) (.int .i64 (if day - 1000000000000 ≤ fr then fr else day - 1000000000000)) = some (.int .i64 (sinceN day fr)) := by
      rw [bin_sub (by rw [← hs]; omega), ← hs]
    (repeat refine AWp.seq ?_); change AWp _ _ _ _ _; refine AWp.region ?_; (repeat (first | refine AOps.v rfl rfl rfl rfl rfl (by simp only [evS, cond_tt, cond_ff, absV, depthV, Nat.reduceEqDiff, Nat.reduceLT, ↓reduceIte, Option.map_some, Option.bind_some, List.toList_toArray, hb, bi_max, hb2]; rfl) ?_ | refine AOps.s rfl rfl rfl ?_ | refine AOps.u rfl rfl rfl rfl (by simp only [evS, cond_tt, cond_ff, absV, depthV, Nat.reduceEqDiff, Nat.reduceLT, ↓reduceIte, Option.map_some, Option.bind_some, List.toList_toArray, hb, bi_max, hb2]; rfl) ?_)); refine AOps.nil ?_
    (repeat refine AWp.seq ?_)
    refine AWp.region ?_
    (repeat (first | refine AOps.v rfl rfl rfl rfl rfl (by simp only [evS, cond_tt, cond_ff, absV, depthV, Nat.reduceEqDiff, Nat.reduceLT, ↓reduceIte, Option.map_some, Option.bind_some, List.toList_toArray, op_build, partsA_cons, partsA_nil, build39]; rfl) ?_ | refine AOps.s rfl rfl rfl ?_ | refine AOps.u rfl rfl rfl rfl (by simp only [evS, cond_tt, cond_ff, absV, depthV, Nat.reduceEqDiff, Nat.reduceLT, ↓reduceIte, Option.map_some, Option.bind_some, List.toList_toArray, op_build, partsA_cons, partsA_nil, build39]; rfl) ?_))
    refine AOps.st rfl rfl rfl (by simp only [evS, cond_tt, cond_ff, absV, depthV, Nat.reduceEqDiff, Nat.reduceLT, ↓reduceIte, Option.map_some, Option.bind_some, List.toList_toArray]; rfl) (by simp only [evS, cond_tt, cond_ff, absV, depthV, Nat.reduceEqDiff, Nat.reduceLT, ↓reduceIte, Option.map_some, Option.bind_some, List.toList_toArray]; rfl) (by exact Tryz.size79) (by simp only [H.lay, put_get]; rfl) (by simp only [H.lay, put_get]; rfl) (by rfl) (by rfl) (cs' := [.int .i64 (sinceN day fr), .int .i64 (sinceN day fr)]) (by rfl) (minN_self _) ?_
    refine AOps.nil ?_
    refine AWp.ret ?_
    (try simp only [OutOf, Then, Round, NoGoto])
    refine leaves_plain (v := .agg [.int .i64 (sinceN day fr), .int .i64 (sinceN day fr)]) (by rfl) ?_ (fun _ => rfl) (by rfl) ⟨rfl, rfl⟩
    show resultsA _ _ _ [ResultVar.cell 4 79] = _
    simp only [resultsA, List.mapM_cons, List.mapM_nil, evS, cond_tt, cond_ff, absV, depthV, Nat.reduceEqDiff, Nat.reduceLT, ↓reduceIte, Option.map_some, Option.bind_some, List.toList_toArray, Tryz.tw, H.lay, Nat.zero_add, Nat.add_zero, ↓reduceIte, List.getElem?_cons_zero, List.getElem?_cons_succ, hch]
    rfl
  · (repeat refine AWp.seq ?_); change AWp _ _ _ _ _; refine AWp.region ?_; (repeat (first | refine AOps.v rfl rfl rfl rfl rfl (by simp only [evS, cond_tt, cond_ff, absV, depthV, Nat.reduceEqDiff, Nat.reduceLT, ↓reduceIte, Option.map_some, Option.bind_some, List.toList_toArray, e1]; rfl) ?_ | refine AOps.s rfl rfl rfl ?_ | refine AOps.u rfl rfl rfl rfl (by simp only [evS, cond_tt, cond_ff, absV, depthV, Nat.reduceEqDiff, Nat.reduceLT, ↓reduceIte, Option.map_some, Option.bind_some, List.toList_toArray, e1]; rfl) ?_)); refine AOps.nil ?_
    (repeat refine AWp.seq ?_); change AWp _ _ _ _ _; refine AWp.yes (by rfl) (by rfl) ?_
    have hs : sinceN day fr = 0 := by unfold sinceN; rw [if_pos (by simpa using e1)]
    rw [hs]
    (repeat refine AWp.seq ?_)
    refine AWp.region ?_
    (repeat (first | refine AOps.v rfl rfl rfl rfl rfl (by simp only [evS, cond_tt, cond_ff, absV, depthV, Nat.reduceEqDiff, Nat.reduceLT, ↓reduceIte, Option.map_some, Option.bind_some, List.toList_toArray, op_build, partsA_nil, build39e]; rfl) ?_ | refine AOps.s rfl rfl rfl ?_ | refine AOps.u rfl rfl rfl rfl (by simp only [evS, cond_tt, cond_ff, absV, depthV, Nat.reduceEqDiff, Nat.reduceLT, ↓reduceIte, Option.map_some, Option.bind_some, List.toList_toArray, op_build, partsA_nil, build39e]; rfl) ?_))
    refine AOps.st rfl rfl rfl (by simp only [evS, cond_tt, cond_ff, absV, depthV, Nat.reduceEqDiff, Nat.reduceLT, ↓reduceIte, Option.map_some, Option.bind_some, List.toList_toArray]; rfl) (by simp only [evS, cond_tt, cond_ff, absV, depthV, Nat.reduceEqDiff, Nat.reduceLT, ↓reduceIte, Option.map_some, Option.bind_some, List.toList_toArray]; rfl) (by exact Tryz.size79) (by simp only [H.lay, put_get]; rfl) (by simp only [H.lay, put_get]; rfl) (by rfl) (by rfl) (cs' := [.int .i64 0, .int .i64 0]) (by rfl) (minN_self _) ?_
    refine AOps.nil ?_
    refine AWp.ret ?_
    (try simp only [OutOf, Then, Round, NoGoto])
    refine leaves_plain (v := .agg [.int .i64 0, .int .i64 0]) (by rfl) ?_ (fun _ => rfl) (by rfl) ⟨rfl, rfl⟩
    show resultsA _ _ _ [ResultVar.cell 4 79] = _
    simp only [resultsA, List.mapM_cons, List.mapM_nil, evS, cond_tt, cond_ff, absV, depthV, Nat.reduceEqDiff, Nat.reduceLT, ↓reduceIte, Option.map_some, Option.bind_some, List.toList_toArray, Tryz.tw, H.lay, Nat.zero_add, Nat.add_zero, ↓reduceIte, List.getElem?_cons_zero, List.getElem?_cons_succ, hch]
    rfl

end Go.Proofs

/- Seat r1: life.Value; what covers a cost. No conditions beyond those that each theorem states. -/
namespace Go.Proofs
open Go.Ev
set_option maxRecDepth 100000

theorem Tryz.keysA : Keys Tryz.prog 9 sAV where
  eq := fun a b => by
    simp only [eqA, Tryz.underlying9, eqL_eq]
  ck := fun a => by
    simp only [keyA, ckA, Tryz.underlying9]
  st := fun a => by
    simp only [stays, plainK, eqTop, eqL_eq, decide_true, Bool.and_true]
    rfl

theorem pt_made (p : Pt) : p.cells[4]? = some (.int .i64 p.made) := rfl
theorem pt_km (p : Pt) : chunkL p.cells 8 2 = some [.int .i64 p.kml, .int .i64 p.kmh] := rfl
theorem pt_kmh (p : Pt) : p.cells[9]? = some (.int .i64 p.kmh) := rfl
theorem pt_kind (p : Pt) : p.cells[1]? = some (.str p.kind) := rfl

set_option maxHeartbeats 1000000 in
theorem Tryz.kmOf (p : Pt) (day : Int) (h : H) : ACalls Tryz.prog (.func 191) [.agg p.cells, .int .i64 day] h (fun v h' => v = .agg [.int .i64 p.kml, .int .i64 p.kmh] ∧ h' = h) := by
  refine ACalls.body (n := 8) Tryz.nogo Tryz.func191 rfl rfl ?_
  rw [argF2]
  have hch : ∀ a b : Int, chunkL [.int .i64 a, .int .i64 b] 0 2 = some [.int .i64 a, .int .i64 b] := fun _ _ => rfl
  have hk := pt_km p
  (repeat refine AWp.seq ?_); change AWp _ _ _ _ _; refine AWp.region ?_; (repeat (first | refine AOps.v rfl rfl rfl rfl rfl (by simp only [evS, cond_tt, cond_ff, absV, depthV, Nat.reduceEqDiff, Nat.reduceLT, ↓reduceIte, Option.map_some, Option.bind_some, List.toList_toArray, op_box, Tryz.zero79, H.lay]; rfl) ?_ | refine AOps.s rfl rfl rfl ?_ | refine AOps.u rfl rfl rfl rfl (by simp only [evS, cond_tt, cond_ff, absV, depthV, Nat.reduceEqDiff, Nat.reduceLT, ↓reduceIte, Option.map_some, Option.bind_some, List.toList_toArray, op_box, Tryz.zero79, H.lay]; rfl) ?_)); refine AOps.nil ?_
  obtain ⟨O2, hO2⟩ : ∃ X, X = Tr.put (Tr.put h.objs h.next (some (.cells p.cells h.next))) (h.next + 1) (some (.cells [.int .i64 0, .int .i64 0] (h.next + 1))) := ⟨_, rfl⟩
  obtain ⟨F2, hF2⟩ : ∃ X, X = Tr.put (Tr.put h.fams h.next (some (h.next, h.next))) (h.next + 1) (some (h.next + 1, h.next + 1)) := ⟨_, rfl⟩
  rw [← hO2, ← hF2]
  have g0 : rowO O2 h.next = some p.cells := by unfold rowO; rw [hO2, put_other _ _ (by omega), put_same]; rfl
  have g1 : O2.get (h.next + 1) = some (.cells [.int .i64 0, .int .i64 0] (h.next + 1)) := by rw [hO2]; exact put_same _ _ _
  have g2 : F2.get (h.next + 1) = some (h.next + 1, h.next + 1) := by rw [hF2]; exact put_same _ _ _
  (repeat refine AWp.seq ?_)
  refine AWp.region ?_
  (repeat (first | refine AOps.v rfl rfl rfl rfl rfl (by simp only [evS, cond_tt, cond_ff, absV, depthV, Nat.reduceEqDiff, Nat.reduceLT, ↓reduceIte, Option.map_some, Option.bind_some, List.toList_toArray, Tryz.tw, H.lay, Nat.zero_add, Nat.add_zero, ↓reduceIte, List.getElem?_cons_zero, List.getElem?_cons_succ, g0, hk]; rfl) ?_ | refine AOps.s rfl rfl rfl ?_ | refine AOps.u rfl rfl rfl rfl (by simp only [evS, cond_tt, cond_ff, absV, depthV, Nat.reduceEqDiff, Nat.reduceLT, ↓reduceIte, Option.map_some, Option.bind_some, List.toList_toArray, Tryz.tw, H.lay, Nat.zero_add, Nat.add_zero, ↓reduceIte, List.getElem?_cons_zero, List.getElem?_cons_succ, g0, hk]; rfl) ?_))
  refine AOps.st rfl rfl rfl (by simp only [evS, cond_tt, cond_ff, absV, depthV, Nat.reduceEqDiff, Nat.reduceLT, ↓reduceIte, Option.map_some, Option.bind_some, List.toList_toArray]; rfl) (by simp only [evS, cond_tt, cond_ff, absV, depthV, Nat.reduceEqDiff, Nat.reduceLT, ↓reduceIte, Option.map_some, Option.bind_some, List.toList_toArray]; rfl) (by exact Tryz.size79) g1 g2 (by rfl) (by rfl) (cs' := [.int .i64 p.kml, .int .i64 p.kmh]) (by rfl) (minN_left (show h.next ≤ h.next + 1 by omega)) ?_
  refine AOps.nil ?_
  refine AWp.ret ?_
  (try simp only [OutOf, Then, Round, NoGoto])
  have hR : rowO (Tr.put O2 (h.next + 1) (some (.cells [.int .i64 p.kml, .int .i64 p.kmh] (h.next + 1)))) (h.next + 1) = some [.int .i64 p.kml, .int .i64 p.kmh] := by rw [rowO_put, if_pos rfl]; rfl
  refine leaves_plain (v := .agg [.int .i64 p.kml, .int .i64 p.kmh]) (by rfl) ?_ (fun _ => rfl) (by rfl) ⟨rfl, rfl⟩
  show resultsA _ _ _ [ResultVar.cell 4 79] = _
  simp only [resultsA, List.mapM_cons, List.mapM_nil, evS, cond_tt, cond_ff, absV, depthV, Nat.reduceEqDiff, Nat.reduceLT, ↓reduceIte, Option.map_some, Option.bind_some, List.toList_toArray, Tryz.tw, H.lay, Nat.zero_add, Nat.add_zero, ↓reduceIte, List.getElem?_cons_zero, List.getElem?_cons_succ, hR, hch]
  rfl

set_option maxHeartbeats 1000000 in
theorem Tryz.ageOf (p : Pt) (day : Int) (hd : 0 ≤ day ∧ day ≤ 40000) (bx : Nat) (h : H) (hb : rowO h.objs bx = some [.fn (.func 190) [] []]) (hbx : bx < h.next) :
    ACalls Tryz.prog (.func 195) [.agg p.cells, .int .i64 day, .ptr (some (bx, 0))] h (fun v h' => v = .agg [.int .i64 (sinceN day p.made), .int .i64 (sinceN day p.made)] ∧ h' = h) := by
  refine ACalls.body (n := 11) Tryz.nogo Tryz.func195 rfl rfl ?_
  rw [argF3]
  have hch : ∀ a b : Int, chunkL [.int .i64 a, .int .i64 b] 0 2 = some [.int .i64 a, .int .i64 b] := fun _ _ => rfl
  have hk := pt_made p
  (repeat refine AWp.seq ?_); change AWp _ _ _ _ _; refine AWp.region ?_; (repeat (first | refine AOps.v rfl rfl rfl rfl rfl (by simp only [evS, cond_tt, cond_ff, absV, depthV, Nat.reduceEqDiff, Nat.reduceLT, ↓reduceIte, Option.map_some, Option.bind_some, List.toList_toArray, op_box, Tryz.zero79, H.lay]; rfl) ?_ | refine AOps.s rfl rfl rfl ?_ | refine AOps.u rfl rfl rfl rfl (by simp only [evS, cond_tt, cond_ff, absV, depthV, Nat.reduceEqDiff, Nat.reduceLT, ↓reduceIte, Option.map_some, Option.bind_some, List.toList_toArray, op_box, Tryz.zero79, H.lay]; rfl) ?_)); refine AOps.nil ?_
  obtain ⟨O2, hO2⟩ : ∃ X, X = Tr.put (Tr.put h.objs h.next (some (.cells p.cells h.next))) (h.next + 1) (some (.cells [.int .i64 0, .int .i64 0] (h.next + 1))) := ⟨_, rfl⟩
  obtain ⟨F2, hF2⟩ : ∃ X, X = Tr.put (Tr.put h.fams h.next (some (h.next, h.next))) (h.next + 1) (some (h.next + 1, h.next + 1)) := ⟨_, rfl⟩
  rw [← hO2, ← hF2]
  have g0 : rowO O2 h.next = some p.cells := by unfold rowO; rw [hO2, put_other _ _ (by omega), put_same]; rfl
  have g1 : O2.get (h.next + 1) = some (.cells [.int .i64 0, .int .i64 0] (h.next + 1)) := by rw [hO2]; exact put_same _ _ _
  have g2 : F2.get (h.next + 1) = some (h.next + 1, h.next + 1) := by rw [hF2]; exact put_same _ _ _
  have gb : rowO O2 bx = some [.fn (.func 190) [] []] := rowO_of hb (by rw [hO2, put_other _ _ (by omega), put_other _ _ (by omega)])
  (repeat refine AWp.seq ?_); change AWp _ _ _ _ _; refine AWp.region ?_; (repeat (first | refine AOps.v rfl rfl rfl rfl rfl (by simp only [evS, cond_tt, cond_ff, absV, depthV, Nat.reduceEqDiff, Nat.reduceLT, ↓reduceIte, Option.map_some, Option.bind_some, List.toList_toArray, Tryz.tw, H.lay, Nat.zero_add, Nat.add_zero, ↓reduceIte, List.getElem?_cons_zero, List.getElem?_cons_succ, g0, gb, hk]; rfl) ?_ | refine AOps.s rfl rfl rfl ?_ | refine AOps.u rfl rfl rfl rfl (by simp only [evS, cond_tt, cond_ff, absV, depthV, Nat.reduceEqDiff, Nat.reduceLT, ↓reduceIte, Option.map_some, Option.bind_some, List.toList_toArray, Tryz.tw, H.lay, Nat.zero_add, Nat.add_zero, ↓reduceIte, List.getElem?_cons_zero, List.getElem?_cons_succ, g0, gb, hk]; rfl) ?_))
  refine AOps.c rfl rfl rfl rfl rfl (by simp only [callOf_val, callW_fn, evS, cond_tt, cond_ff, absV, depthV, Nat.reduceEqDiff, Nat.reduceLT, ↓reduceIte, Option.map_some, Option.bind_some, List.toList_toArray]; rfl) rfl (Tryz.since day p.made hd _) ?_; rintro _ _ ⟨rfl, rfl⟩
  refine AOps.st rfl rfl rfl (by simp only [evS, cond_tt, cond_ff, absV, depthV, Nat.reduceEqDiff, Nat.reduceLT, ↓reduceIte, Option.map_some, Option.bind_some, List.toList_toArray]; rfl) (by simp only [evS, cond_tt, cond_ff, absV, depthV, Nat.reduceEqDiff, Nat.reduceLT, ↓reduceIte, Option.map_some, Option.bind_some, List.toList_toArray]; rfl) (by exact Tryz.size79) g1 g2 (by rfl) (by rfl) (cs' := [.int .i64 (sinceN day p.made), .int .i64 (sinceN day p.made)]) (by rfl) (minN_left (show h.next ≤ h.next + 1 by omega)) ?_
  refine AOps.nil ?_
  refine AWp.ret ?_
  (try simp only [OutOf, Then, Round, NoGoto])
  have hR : rowO (Tr.put O2 (h.next + 1) (some (.cells [.int .i64 (sinceN day p.made), .int .i64 (sinceN day p.made)] (h.next + 1)))) (h.next + 1) = some [.int .i64 (sinceN day p.made), .int .i64 (sinceN day p.made)] := by rw [rowO_put, if_pos rfl]; rfl
  refine leaves_plain (v := .agg [.int .i64 (sinceN day p.made), .int .i64 (sinceN day p.made)]) (by rfl) ?_ (fun _ => rfl) (by rfl) ⟨rfl, rfl⟩
  show resultsA _ _ _ [ResultVar.cell 5 79] = _
  simp only [resultsA, List.mapM_cons, List.mapM_nil, evS, cond_tt, cond_ff, absV, depthV, Nat.reduceEqDiff, Nat.reduceLT, ↓reduceIte, Option.map_some, Option.bind_some, List.toList_toArray, Tryz.tw, H.lay, Nat.zero_add, Nat.add_zero, ↓reduceIte, List.getElem?_cons_zero, List.getElem?_cons_succ, hR, hch]
  rfl

def idAV (a : AV) : AV := a
def sKm : List Nat := [107, 109]
def sAge : List Nat := [97, 103, 101]
/-- The table of currencies. -/
def currL (bx : Nat) : List (List Nat × AV) := [(sKm, .fn (.func 191) [] []), ([99, 121, 99, 108, 101, 115], .fn (.func 192) [] []), ([100, 97, 109, 97, 103, 101], .fn (.func 193) [] []), ([100, 97, 121, 115], .fn (.func 194) [] [.ptr (some (bx, 0))]), (sAge, .fn (.func 195) [] [.ptr (some (bx, 0))])]

def CurrQ (h : H) (v : AV) (h' : H) : Prop := ∃ bx m, v = .map (some m) ∧ Over h.next h h' ∧ MapAt sAV idAV h'.objs m (currL bx) ∧ rowO h'.objs bx = some [.fn (.func 190) [] []] ∧ bx < h'.next ∧ m < h'.next

theorem Tryz.zero257 : zeroA Tryz.prog 257 = some .nilFn := by kernel_rfl

set_option maxHeartbeats 1000000 in
theorem Tryz.currencies (h : H) : ACalls Tryz.prog (.func 132) [] h (CurrQ h) := by
  refine ACalls.body (n := 6) Tryz.nogo Tryz.func132 rfl rfl ?_
  show AWp _ _ _ ⟨f00, 6, _, _⟩ _
  (repeat refine AWp.seq ?_); change AWp _ _ _ _ _; refine AWp.region ?_; (repeat (first | refine AOps.v rfl rfl rfl rfl rfl (by simp only [evS, cond_tt, cond_ff, absV, depthV, Nat.reduceEqDiff, Nat.reduceLT, ↓reduceIte, Option.map_some, Option.bind_some, List.toList_toArray]; rfl) ?_ | refine AOps.s rfl rfl rfl ?_ | refine AOps.u rfl rfl rfl rfl (by simp only [evS, cond_tt, cond_ff, absV, depthV, Nat.reduceEqDiff, Nat.reduceLT, ↓reduceIte, Option.map_some, Option.bind_some, List.toList_toArray]; rfl) ?_)); refine AOps.nil ?_
  (repeat refine AWp.seq ?_)
  refine AWp.region ?_
  (repeat (first | refine AOps.v rfl rfl rfl rfl rfl (by simp only [evS, cond_tt, cond_ff, absV, depthV, Nat.reduceEqDiff, Nat.reduceLT, ↓reduceIte, Option.map_some, Option.bind_some, List.toList_toArray, Tryz.zero257, H.lay]; rfl) ?_ | refine AOps.s rfl rfl rfl ?_ | refine AOps.u rfl rfl rfl rfl (by simp only [evS, cond_tt, cond_ff, absV, depthV, Nat.reduceEqDiff, Nat.reduceLT, ↓reduceIte, Option.map_some, Option.bind_some, List.toList_toArray, Tryz.zero257, H.lay]; rfl) ?_))
  refine AOps.st rfl rfl rfl (by simp only [evS, cond_tt, cond_ff, absV, depthV, Nat.reduceEqDiff, Nat.reduceLT, ↓reduceIte, Option.map_some, Option.bind_some, List.toList_toArray]; rfl) (by simp only [evS, cond_tt, cond_ff, absV, depthV, Nat.reduceEqDiff, Nat.reduceLT, ↓reduceIte, Option.map_some, Option.bind_some, List.toList_toArray]; rfl) (by exact Tryz.size257) (by simp only [put_get]; rfl) (by simp only [put_get]; rfl) (by rfl) (by rfl) (cs' := [.fn (.func 190) [] []]) (by rfl) (minN_self _) ?_
  refine AOps.nil ?_
  obtain ⟨O2, hO2⟩ : ∃ X, X = Tr.put (Tr.put h.objs h.next (some (.cells (AV.cells .nilFn) h.next))) h.next (some (.cells [.fn (.func 190) [] []] h.next)) := ⟨_, rfl⟩
  rw [← hO2]
  have g0 : rowO O2 h.next = some [.fn (.func 190) [] []] := by unfold rowO; rw [hO2, put_same]; rfl
  have gold : ∀ j, j < h.next → O2.get j = h.objs.get j := fun j hj => by rw [hO2, put_other _ _ (by omega), put_other _ _ (by omega)]
  clear hO2
  (repeat refine AWp.seq ?_)
  refine AWp.region ?_
  (repeat (first | refine AOps.v rfl rfl rfl rfl rfl (by simp only [evS, cond_tt, cond_ff, absV, depthV, Nat.reduceEqDiff, Nat.reduceLT, ↓reduceIte, Option.map_some, Option.bind_some, List.toList_toArray, op_makeMap, H.lay]; rfl) ?_ | refine AOps.s rfl rfl rfl ?_ | refine AOps.u rfl rfl rfl rfl (by simp only [evS, cond_tt, cond_ff, absV, depthV, Nat.reduceEqDiff, Nat.reduceLT, ↓reduceIte, Option.map_some, Option.bind_some, List.toList_toArray, op_makeMap, H.lay]; rfl) ?_))
  have hm0 : MapAt sAV idAV (Tr.put O2 (h.next + 1) (some (.map [] 0))) (h.next + 1) [] := put_same _ _ _
  have hr0 : ∀ j, j ≠ h.next + 1 → (Tr.put O2 (h.next + 1) (some (.map [] 0))).get j = O2.get j := fun j hj => put_other _ _ hj
  generalize Tr.put O2 (h.next + 1) (some (.map [] 0)) = O3 at hm0 hr0 ⊢
  refine AOps.mu (kv := sAV) (uv := idAV) (k := sKm) (v := .fn (.func 191) [] []) rfl (.inl rfl) rfl rfl (by simp only [evS, cond_tt, cond_ff, absV, depthV, Nat.reduceEqDiff, Nat.reduceLT, ↓reduceIte, Option.map_some, Option.bind_some, List.toList_toArray]) (by rfl) (by rfl) Tryz.underlying199 Tryz.keysA hm0 (minN_left (show h.next ≤ h.next + 1 by omega)) ?_
  intro O4 hr1 hm1
  refine AOps.mu (kv := sAV) (uv := idAV) (k := [99, 121, 99, 108, 101, 115]) (v := .fn (.func 192) [] []) rfl (.inl rfl) rfl rfl (by simp only [evS, cond_tt, cond_ff, absV, depthV, Nat.reduceEqDiff, Nat.reduceLT, ↓reduceIte, Option.map_some, Option.bind_some, List.toList_toArray]) (by rfl) (by rfl) Tryz.underlying199 Tryz.keysA hm1 (minN_left (show h.next ≤ h.next + 1 by omega)) ?_
  intro O5 hr2 hm2
  refine AOps.mu (kv := sAV) (uv := idAV) (k := [100, 97, 109, 97, 103, 101]) (v := .fn (.func 193) [] []) rfl (.inl rfl) rfl rfl (by simp only [evS, cond_tt, cond_ff, absV, depthV, Nat.reduceEqDiff, Nat.reduceLT, ↓reduceIte, Option.map_some, Option.bind_some, List.toList_toArray]) (by rfl) (by rfl) Tryz.underlying199 Tryz.keysA hm2 (minN_left (show h.next ≤ h.next + 1 by omega)) ?_
  intro O6 hr3 hm3
  (repeat (first | refine AOps.v rfl rfl rfl rfl rfl (by simp only [evS, cond_tt, cond_ff, absV, depthV, Nat.reduceEqDiff, Nat.reduceLT, ↓reduceIte, Option.map_some, Option.bind_some, List.toList_toArray]; rfl) ?_ | refine AOps.s rfl rfl rfl ?_ | refine AOps.u rfl rfl rfl rfl (by simp only [evS, cond_tt, cond_ff, absV, depthV, Nat.reduceEqDiff, Nat.reduceLT, ↓reduceIte, Option.map_some, Option.bind_some, List.toList_toArray]; rfl) ?_))
  refine AOps.mu (kv := sAV) (uv := idAV) (k := [100, 97, 121, 115]) (v := .fn (.func 194) [] [.ptr (some (h.next, 0))]) rfl (.inl rfl) rfl rfl (by simp only [evS, cond_tt, cond_ff, absV, depthV, Nat.reduceEqDiff, Nat.reduceLT, ↓reduceIte, Option.map_some, Option.bind_some, List.toList_toArray]) (by rfl) (by simp only [evS, cond_tt, cond_ff, absV, depthV, Nat.reduceEqDiff, Nat.reduceLT, ↓reduceIte, Option.map_some, Option.bind_some, List.toList_toArray]; rfl) Tryz.underlying199 Tryz.keysA hm3 (minN_left (show h.next ≤ h.next + 1 by omega)) ?_
  intro O7 hr4 hm4
  (repeat (first | refine AOps.v rfl rfl rfl rfl rfl (by simp only [evS, cond_tt, cond_ff, absV, depthV, Nat.reduceEqDiff, Nat.reduceLT, ↓reduceIte, Option.map_some, Option.bind_some, List.toList_toArray]; rfl) ?_ | refine AOps.s rfl rfl rfl ?_ | refine AOps.u rfl rfl rfl rfl (by simp only [evS, cond_tt, cond_ff, absV, depthV, Nat.reduceEqDiff, Nat.reduceLT, ↓reduceIte, Option.map_some, Option.bind_some, List.toList_toArray]; rfl) ?_))
  refine AOps.mu (kv := sAV) (uv := idAV) (k := sAge) (v := .fn (.func 195) [] [.ptr (some (h.next, 0))]) rfl (.inl rfl) rfl rfl (by simp only [evS, cond_tt, cond_ff, absV, depthV, Nat.reduceEqDiff, Nat.reduceLT, ↓reduceIte, Option.map_some, Option.bind_some, List.toList_toArray]) (by rfl) (by simp only [evS, cond_tt, cond_ff, absV, depthV, Nat.reduceEqDiff, Nat.reduceLT, ↓reduceIte, Option.map_some, Option.bind_some, List.toList_toArray]; rfl) Tryz.underlying199 Tryz.keysA hm4 (minN_left (show h.next ≤ h.next + 1 by omega)) ?_
  intro O8 hr5 hm5
  have hr8 : ∀ j, j ≠ h.next + 1 → O8.get j = O2.get j := fun j hj => by rw [hr5 j hj, hr4 j hj, hr3 j hj, hr2 j hj, hr1 j hj, hr0 j hj]
  (repeat (first | refine AOps.v rfl rfl rfl rfl rfl (by simp only [evS, cond_tt, cond_ff, absV, depthV, Nat.reduceEqDiff, Nat.reduceLT, ↓reduceIte, Option.map_some, Option.bind_some, List.toList_toArray]; rfl) ?_ | refine AOps.s rfl rfl rfl ?_ | refine AOps.u rfl rfl rfl rfl (by simp only [evS, cond_tt, cond_ff, absV, depthV, Nat.reduceEqDiff, Nat.reduceLT, ↓reduceIte, Option.map_some, Option.bind_some, List.toList_toArray]; rfl) ?_))
  refine AOps.nil ?_
  refine AWp.ret ?_
  (try simp only [OutOf, Then, Round, NoGoto])
  refine ⟨rfl, _, rfl, .map (some (h.next + 1)), by rfl, .inl ⟨h.next, h.next + 1, rfl, ⟨by show h.next ≤ h.next + 1 + 1; omega, fun j hj => (hr8 j (by omega)).trans (gold j hj), fun j hj => ?_, fun hl => minN_left hl⟩, hm5, rowO_of g0 (hr8 h.next (by omega)), ?_, ?_⟩⟩
  · show (Tr.put h.fams h.next _).get j = _
    rw [put_other _ _ (by omega)]
  · show h.next < h.next + 1 + 1; omega
  · show h.next + 1 < h.next + 1 + 1; omega

/-- life.Value, of the age and of the kilometres. -/
theorem Tryz.value (p : Pt) (cur : List Nat) (lo hi : Int) (day : Int) (hd : 0 ≤ day ∧ day ≤ 40000) (h : H) (hone : oneC p.props = true)
    (hcur : (cur = sAge ∧ lo = sinceN day p.made ∧ hi = sinceN day p.made) ∨ (cur = sKm ∧ lo = p.kml ∧ hi = p.kmh)) :
    ACalls Tryz.prog (.func 68) [.agg p.cells, .str cur, .int .i64 day] h (fun v h' => v = .tup [.agg [.int .i64 lo, .int .i64 hi], .int .i64 0] ∧ h' = h) := by
  refine ACalls.body (n := 32) Tryz.nogo Tryz.func68 rfl rfl ?_
  rw [argF3]
  have hch : ∀ a b : Int, chunkL [.int .i64 a, .int .i64 b] 0 2 = some [.int .i64 a, .int .i64 b] := fun _ _ => rfl
  (repeat refine AWp.seq ?_); change AWp _ _ _ _ _; refine AWp.region ?_; (repeat (first | refine AOps.v rfl rfl rfl rfl rfl (by simp only [evS, cond_tt, cond_ff, absV, depthV, Nat.reduceEqDiff, Nat.reduceLT, ↓reduceIte, Option.map_some, Option.bind_some, List.toList_toArray, op_box, Tryz.zero79, H.lay]; rfl) ?_ | refine AOps.s rfl rfl rfl ?_ | refine AOps.u rfl rfl rfl rfl (by simp only [evS, cond_tt, cond_ff, absV, depthV, Nat.reduceEqDiff, Nat.reduceLT, ↓reduceIte, Option.map_some, Option.bind_some, List.toList_toArray, op_box, Tryz.zero79, H.lay]; rfl) ?_)); refine AOps.nil ?_
  obtain ⟨O2, hO2⟩ : ∃ X, X = Tr.put (Tr.put h.objs h.next (some (.cells p.cells h.next))) (h.next + 1) (some (.cells [.int .i64 0, .int .i64 0] (h.next + 1))) := ⟨_, rfl⟩
  obtain ⟨F2, hF2⟩ : ∃ X, X = Tr.put (Tr.put h.fams h.next (some (h.next, h.next))) (h.next + 1) (some (h.next + 1, h.next + 1)) := ⟨_, rfl⟩
  rw [← hO2, ← hF2]
  have g0 : rowO O2 h.next = some p.cells := by unfold rowO; rw [hO2, put_other _ _ (by omega), put_same]; rfl
  have g1 : O2.get (h.next + 1) = some (.cells [.int .i64 0, .int .i64 0] (h.next + 1)) := by rw [hO2]; exact put_same _ _ _
  have g2 : F2.get (h.next + 1) = some (h.next + 1, h.next + 1) := by rw [hF2]; exact put_same _ _ _
  (repeat refine AWp.seq ?_); change AWp _ _ _ _ _; refine AWp.region ?_; (repeat (first | refine AOps.v rfl rfl rfl rfl rfl (by simp only [evS, cond_tt, cond_ff, absV, depthV, Nat.reduceEqDiff, Nat.reduceLT, ↓reduceIte, Option.map_some, Option.bind_some, List.toList_toArray]; rfl) ?_ | refine AOps.s rfl rfl rfl ?_ | refine AOps.u rfl rfl rfl rfl (by simp only [evS, cond_tt, cond_ff, absV, depthV, Nat.reduceEqDiff, Nat.reduceLT, ↓reduceIte, Option.map_some, Option.bind_some, List.toList_toArray]; rfl) ?_))
  refine AOps.c rfl rfl rfl rfl rfl (by simp only [callOf_val, callW_fn, evS, cond_tt, cond_ff, absV, depthV, Nat.reduceEqDiff, Nat.reduceLT, ↓reduceIte, Option.map_some, Option.bind_some, List.toList_toArray]; rfl) rfl (Tryz.currencies ⟨O2, F2, h.next + 1 + 1, h.next⟩) ?_
  rintro _ ⟨o, fm, kn, kl⟩ ⟨bx, m, rfl, hov, hm, hb, hbx, hmn⟩
  have hkl : kl = h.next := hov.low (show h.next ≤ h.next + 1 + 1 by omega)
  subst hkl
  simp only at hm hb hbx hmn
  have hkn : h.next + 1 + 1 ≤ kn := hov.next
  have hlk := look_map (P := Tryz.prog) (h := ⟨o, fm, kn, h.next⟩) (u0 := AV.nilFn) Tryz.underlying199 Tryz.keysA (by exact Tryz.zero257) hm cur true
  have g3 : rowO o h.next = some p.cells := rowO_of g0 (hov.objs _ (by simp only; omega))
  have g4 : o.get (h.next + 1) = some (.cells [.int .i64 0, .int .i64 0] (h.next + 1)) := (hov.objs _ (by simp only; omega)).trans g1
  have g5 : fm.get (h.next + 1) = some (h.next + 1, h.next + 1) := (hov.fams _ (by simp only; omega)).trans g2
  have hp14 := pt_chunk p
  have d1 : decide (day < 0) = false := decide_eq_false (by omega)
  have d2 : decide (40000 < day) = false := decide_eq_false (by omega)
  obtain ⟨fv, hfv, hcall⟩ : ∃ fv : AV, idAV (getM AV.nilFn cur (currL bx)) = fv ∧ hasM cur (currL bx) = true ∧ ∃ fid cap, fv = .fn (.func fid) [] cap ∧ ACalls Tryz.prog (.func fid) ([.agg p.cells, .int .i64 day] ++ cap) ⟨o, fm, kn, h.next⟩ (fun v h' => v = .agg [.int .i64 lo, .int .i64 hi] ∧ h' = ⟨o, fm, kn, h.next⟩) := by
    rcases hcur with ⟨rfl, rfl, rfl⟩ | ⟨rfl, rfl, rfl⟩
    · exact ⟨_, rfl, rfl, _, _, rfl, Tryz.ageOf p day hd bx ⟨o, fm, kn, h.next⟩ hb hbx⟩
    · exact ⟨_, rfl, rfl, _, _, rfl, Tryz.kmOf p day ⟨o, fm, kn, h.next⟩⟩
  obtain ⟨hhas, fid, cap, rfl, hcall⟩ := hcall
  rw [hfv, hhas] at hlk
  (repeat (first | refine AOps.v rfl rfl rfl rfl rfl (by simp only [evS, cond_tt, cond_ff, absV, depthV, Nat.reduceEqDiff, Nat.reduceLT, ↓reduceIte, Option.map_some, Option.bind_some, List.toList_toArray, op_lookup, hlk]; rfl) ?_ | refine AOps.s rfl rfl rfl ?_ | refine AOps.u rfl rfl rfl rfl (by simp only [evS, cond_tt, cond_ff, absV, depthV, Nat.reduceEqDiff, Nat.reduceLT, ↓reduceIte, Option.map_some, Option.bind_some, List.toList_toArray, op_lookup, hlk]; rfl) ?_))
  refine AOps.nil ?_
  (repeat refine AWp.seq ?_)
  refine AWp.block ?_
  (repeat refine AWp.seq ?_); change AWp _ _ _ _ _; refine AWp.region ?_; (repeat (first | refine AOps.v rfl rfl rfl rfl rfl (by simp only [evS, cond_tt, cond_ff, absV, depthV, Nat.reduceEqDiff, Nat.reduceLT, ↓reduceIte, Option.map_some, Option.bind_some, List.toList_toArray]; rfl) ?_ | refine AOps.s rfl rfl rfl ?_ | refine AOps.u rfl rfl rfl rfl (by simp only [evS, cond_tt, cond_ff, absV, depthV, Nat.reduceEqDiff, Nat.reduceLT, ↓reduceIte, Option.map_some, Option.bind_some, List.toList_toArray]; rfl) ?_)); refine AOps.nil ?_
  (repeat refine AWp.seq ?_); change AWp _ _ _ _ _; refine AWp.no (by rfl) (by rfl) ?_
  (repeat refine AWp.seq ?_); change AWp _ _ _ _ _; refine AWp.region ?_; (repeat (first | refine AOps.v rfl rfl rfl rfl rfl (by simp only [evS, cond_tt, cond_ff, absV, depthV, Nat.reduceEqDiff, Nat.reduceLT, ↓reduceIte, Option.map_some, Option.bind_some, List.toList_toArray, d1, d2]; rfl) ?_ | refine AOps.s rfl rfl rfl ?_ | refine AOps.u rfl rfl rfl rfl (by simp only [evS, cond_tt, cond_ff, absV, depthV, Nat.reduceEqDiff, Nat.reduceLT, ↓reduceIte, Option.map_some, Option.bind_some, List.toList_toArray, d1, d2]; rfl) ?_)); refine AOps.nil ?_
  (repeat refine AWp.seq ?_); change AWp _ _ _ _ _; refine AWp.no (by rfl) (by rfl) (AWp.skip ?_)
  (try simp only [OutOf, Then, Round, NoGoto, if_true])
  (repeat refine AWp.seq ?_); change AWp _ _ _ _ _; refine AWp.region ?_; (repeat (first | refine AOps.v rfl rfl rfl rfl rfl (by simp only [evS, cond_tt, cond_ff, absV, depthV, Nat.reduceEqDiff, Nat.reduceLT, ↓reduceIte, Option.map_some, Option.bind_some, List.toList_toArray, Tryz.tw, H.lay, Nat.zero_add, Nat.add_zero, ↓reduceIte, List.getElem?_cons_zero, List.getElem?_cons_succ, g3, hp14]; rfl) ?_ | refine AOps.s rfl rfl rfl ?_ | refine AOps.u rfl rfl rfl rfl (by simp only [evS, cond_tt, cond_ff, absV, depthV, Nat.reduceEqDiff, Nat.reduceLT, ↓reduceIte, Option.map_some, Option.bind_some, List.toList_toArray, Tryz.tw, H.lay, Nat.zero_add, Nat.add_zero, ↓reduceIte, List.getElem?_cons_zero, List.getElem?_cons_succ, g3, hp14]; rfl) ?_))
  refine AOps.c rfl rfl rfl rfl rfl (by simp only [callOf_val, callW_fn, evS, cond_tt, cond_ff, absV, depthV, Nat.reduceEqDiff, Nat.reduceLT, ↓reduceIte, Option.map_some, Option.bind_some, List.toList_toArray]; rfl) rfl hcall ?_
  rintro _ _ ⟨rfl, rfl⟩
  refine AOps.st rfl rfl rfl (by simp only [evS, cond_tt, cond_ff, absV, depthV, Nat.reduceEqDiff, Nat.reduceLT, ↓reduceIte, Option.map_some, Option.bind_some, List.toList_toArray]; rfl) (by simp only [evS, cond_tt, cond_ff, absV, depthV, Nat.reduceEqDiff, Nat.reduceLT, ↓reduceIte, Option.map_some, Option.bind_some, List.toList_toArray]; rfl) (by exact Tryz.size79) g4 g5 (by rfl) (by rfl) (cs' := [.int .i64 lo, .int .i64 hi]) (by rfl) (minN_left (show h.next ≤ h.next + 1 by omega)) ?_
  (repeat (first | refine AOps.v rfl rfl rfl rfl rfl (by simp only [evS, cond_tt, cond_ff, absV, depthV, Nat.reduceEqDiff, Nat.reduceLT, ↓reduceIte, Option.map_some, Option.bind_some, List.toList_toArray]; rfl) ?_ | refine AOps.s rfl rfl rfl ?_ | refine AOps.u rfl rfl rfl rfl (by simp only [evS, cond_tt, cond_ff, absV, depthV, Nat.reduceEqDiff, Nat.reduceLT, ↓reduceIte, Option.map_some, Option.bind_some, List.toList_toArray]; rfl) ?_))
  refine AOps.nil ?_
  refine AWp.ret ?_
  (try simp only [OutOf, Then, Round, NoGoto])
  have hR : rowO (Tr.put o (h.next + 1) (some (.cells [.int .i64 lo, .int .i64 hi] (h.next + 1)))) (h.next + 1) = some [.int .i64 lo, .int .i64 hi] := by rw [rowO_put, if_pos rfl]; rfl
  refine leaves_plain (v := .tup [.agg [.int .i64 lo, .int .i64 hi], .int .i64 0]) (by rfl) ?_ (fun _ => rfl) (by rfl) ⟨rfl, rfl⟩
  show resultsA _ _ _ [ResultVar.cell 6 79, ResultVar.tmp 7] = _
  simp only [resultsA, List.mapM_cons, List.mapM_nil, evS, cond_tt, cond_ff, absV, depthV, Nat.reduceEqDiff, Nat.reduceLT, ↓reduceIte, Option.map_some, Option.bind_some, List.toList_toArray, Tryz.tw, H.lay, Nat.zero_add, Nat.add_zero, ↓reduceIte, List.getElem?_cons_zero, List.getElem?_cons_succ, hR, hch]
  rfl

/-- Does a warranty cover a cost for a part? -/
def coversB (p : Pt) (c : Co) (w : Wy) : Bool := decide (w.kind = p.kind) && (decide (sinceN c.day p.made ≤ w.days) && decide (p.kmh ≤ w.km))

set_option maxHeartbeats 2000000 in
theorem Tryz.covers (p : Pt) (c : Co) (hd : 0 ≤ c.day ∧ c.day ≤ 40000) (hone : oneC p.props = true) (w : Wy) (pb cb : Nat) (h : H) (hp : rowO h.objs pb = some p.cells) (hpb : pb < h.next) (hc : rowO h.objs cb = some c.cells) (hcb : cb < h.next) :
    ACalls Tryz.prog (.func 67) [.agg w.cells, .ptr (some (pb, 0)), .ptr (some (cb, 0))] h (fun v h' => v = .bool (coversB p c w) ∧ h' = h) := by
  refine ACalls.body (n := 35) Tryz.nogo Tryz.func67 rfl rfl ?_
  rw [argF3]
  have hch : ∀ a b : Int, chunkL [.int .i64 a, .int .i64 b] 0 2 = some [.int .i64 a, .int .i64 b] := fun _ _ => rfl
  have hp14 := pt_chunk p
  (repeat refine AWp.seq ?_); change AWp _ _ _ _ _; refine AWp.region ?_; (repeat (first | refine AOps.v rfl rfl rfl rfl rfl (by simp only [evS, cond_tt, cond_ff, absV, depthV, Nat.reduceEqDiff, Nat.reduceLT, ↓reduceIte, Option.map_some, Option.bind_some, List.toList_toArray, op_box, H.lay]; rfl) ?_ | refine AOps.s rfl rfl rfl ?_ | refine AOps.u rfl rfl rfl rfl (by simp only [evS, cond_tt, cond_ff, absV, depthV, Nat.reduceEqDiff, Nat.reduceLT, ↓reduceIte, Option.map_some, Option.bind_some, List.toList_toArray, op_box, H.lay]; rfl) ?_)); refine AOps.nil ?_
  obtain ⟨O2, hO2⟩ : ∃ X, X = Tr.put h.objs h.next (some (.cells w.cells h.next)) := ⟨_, rfl⟩
  obtain ⟨F2, hF2⟩ : ∃ X, X = Tr.put h.fams h.next (some (h.next, h.next)) := ⟨_, rfl⟩
  rw [← hO2, ← hF2]
  have g0 : rowO O2 h.next = some w.cells := by unfold rowO; rw [hO2, put_same]; rfl
  have gp : rowO O2 pb = some p.cells := rowO_of hp (by rw [hO2, put_other _ _ (by omega)])
  have gc : rowO O2 cb = some c.cells := rowO_of hc (by rw [hO2, put_other _ _ (by omega)])
  have q2 : c.cells[2]? = some (.int .i64 c.day) := rfl
  (repeat refine AWp.seq ?_); change AWp _ _ _ _ _; refine AWp.region ?_; (repeat (first | refine AOps.v rfl rfl rfl rfl rfl (by simp only [evS, cond_tt, cond_ff, absV, depthV, Nat.reduceEqDiff, Nat.reduceLT, ↓reduceIte, Option.map_some, Option.bind_some, List.toList_toArray, Tryz.tw, H.lay, Nat.zero_add, Nat.add_zero, ↓reduceIte, List.getElem?_cons_zero, List.getElem?_cons_succ, gp, gc, hp14, q2]; rfl) ?_ | refine AOps.s rfl rfl rfl ?_ | refine AOps.u rfl rfl rfl rfl (by simp only [evS, cond_tt, cond_ff, absV, depthV, Nat.reduceEqDiff, Nat.reduceLT, ↓reduceIte, Option.map_some, Option.bind_some, List.toList_toArray, Tryz.tw, H.lay, Nat.zero_add, Nat.add_zero, ↓reduceIte, List.getElem?_cons_zero, List.getElem?_cons_succ, gp, gc, hp14, q2]; rfl) ?_))
  refine AOps.c rfl rfl rfl rfl rfl (by simp only [callOf_val, callW_fn, evS, cond_tt, cond_ff, absV, depthV, Nat.reduceEqDiff, Nat.reduceLT, ↓reduceIte, Option.map_some, Option.bind_some, List.toList_toArray]; rfl) rfl (Tryz.value p sAge (sinceN c.day p.made) (sinceN c.day p.made) c.day hd _ hone (.inl ⟨rfl, rfl, rfl⟩)) ?_; rintro _ _ ⟨rfl, rfl⟩
  (repeat (first | refine AOps.v rfl rfl rfl rfl rfl (by simp only [evS, cond_tt, cond_ff, absV, depthV, Nat.reduceEqDiff, Nat.reduceLT, ↓reduceIte, Option.map_some, Option.bind_some, List.toList_toArray, Tryz.zero79, H.lay]; rfl) ?_ | refine AOps.s rfl rfl rfl ?_ | refine AOps.u rfl rfl rfl rfl (by simp only [evS, cond_tt, cond_ff, absV, depthV, Nat.reduceEqDiff, Nat.reduceLT, ↓reduceIte, Option.map_some, Option.bind_some, List.toList_toArray, Tryz.zero79, H.lay]; rfl) ?_))
  refine AOps.st rfl rfl rfl (by simp only [evS, cond_tt, cond_ff, absV, depthV, Nat.reduceEqDiff, Nat.reduceLT, ↓reduceIte, Option.map_some, Option.bind_some, List.toList_toArray]; rfl) (by simp only [evS, cond_tt, cond_ff, absV, depthV, Nat.reduceEqDiff, Nat.reduceLT, ↓reduceIte, Option.map_some, Option.bind_some, List.toList_toArray]; rfl) (by exact Tryz.size79) (by simp only [put_get]; rfl) (by simp only [put_get]; rfl) (by rfl) (by rfl) (cs' := [.int .i64 (sinceN c.day p.made), .int .i64 (sinceN c.day p.made)]) (by rfl) (minN_left (show h.next ≤ h.next + 1 by omega)) ?_
  (repeat (first | refine AOps.v rfl rfl rfl rfl rfl (by simp only [evS, cond_tt, cond_ff, absV, depthV, Nat.reduceEqDiff, Nat.reduceLT, ↓reduceIte, Option.map_some, Option.bind_some, List.toList_toArray]; rfl) ?_ | refine AOps.s rfl rfl rfl ?_ | refine AOps.u rfl rfl rfl rfl (by simp only [evS, cond_tt, cond_ff, absV, depthV, Nat.reduceEqDiff, Nat.reduceLT, ↓reduceIte, Option.map_some, Option.bind_some, List.toList_toArray]; rfl) ?_))
  refine AOps.nil ?_
  obtain ⟨O3, hO3⟩ : ∃ X, X = Tr.put (Tr.put O2 (h.next + 1) (some (.cells [.int .i64 0, .int .i64 0] (h.next + 1)))) (h.next + 1) (some (.cells [.int .i64 (sinceN c.day p.made), .int .i64 (sinceN c.day p.made)] (h.next + 1))) := ⟨_, rfl⟩
  rw [← hO3]
  have k1 : rowO O3 (h.next + 1) = some [.int .i64 (sinceN c.day p.made), .int .i64 (sinceN c.day p.made)] := by unfold rowO; rw [hO3, put_same]; rfl
  have k0 : rowO O3 h.next = some w.cells := rowO_of g0 (by rw [hO3, put_other _ _ (by omega), put_other _ _ (by omega)])
  have kp : rowO O3 pb = some p.cells := rowO_of gp (by rw [hO3, put_other _ _ (by omega), put_other _ _ (by omega)])
  have w0 : w.cells[0]? = some (.str w.kind) := rfl
  have w2 : w.cells[2]? = some (.int .i64 w.days) := rfl
  have w3 : w.cells[3]? = some (.int .i64 w.km) := rfl
  have p1 := pt_kind p
  have p9 := pt_kmh p
  unfold coversB
  cases e1 : decide (w.kind = p.kind)
  · (repeat refine AWp.seq ?_); change AWp _ _ _ _ _; refine AWp.region ?_; (repeat (first | refine AOps.v rfl rfl rfl rfl rfl (by simp only [evS, cond_tt, cond_ff, absV, depthV, Nat.reduceEqDiff, Nat.reduceLT, ↓reduceIte, Option.map_some, Option.bind_some, List.toList_toArray, Tryz.tw, H.lay, Nat.zero_add, Nat.add_zero, ↓reduceIte, List.getElem?_cons_zero, List.getElem?_cons_succ, k0, k1, kp, w0, w2, w3, p1, p9, e1]; rfl) ?_ | refine AOps.s rfl rfl rfl ?_ | refine AOps.u rfl rfl rfl rfl (by simp only [evS, cond_tt, cond_ff, absV, depthV, Nat.reduceEqDiff, Nat.reduceLT, ↓reduceIte, Option.map_some, Option.bind_some, List.toList_toArray, Tryz.tw, H.lay, Nat.zero_add, Nat.add_zero, ↓reduceIte, List.getElem?_cons_zero, List.getElem?_cons_succ, k0, k1, kp, w0, w2, w3, p1, p9, e1]; rfl) ?_)); refine AOps.nil ?_
    refine AWp.ret ?_
    (try simp only [OutOf, Then, Round, NoGoto]); refine leaves_plain (by rfl) (by rfl) (fun _ => rfl) (by rfl) ⟨?_, rfl⟩; rfl
  cases e2 : decide (sinceN c.day p.made ≤ w.days)
  · (repeat refine AWp.seq ?_); change AWp _ _ _ _ _; refine AWp.region ?_; (repeat (first | refine AOps.v rfl rfl rfl rfl rfl (by simp only [evS, cond_tt, cond_ff, absV, depthV, Nat.reduceEqDiff, Nat.reduceLT, ↓reduceIte, Option.map_some, Option.bind_some, List.toList_toArray, Tryz.tw, H.lay, Nat.zero_add, Nat.add_zero, ↓reduceIte, List.getElem?_cons_zero, List.getElem?_cons_succ, k0, k1, kp, w0, w2, w3, p1, p9, e1, e2]; rfl) ?_ | refine AOps.s rfl rfl rfl ?_ | refine AOps.u rfl rfl rfl rfl (by simp only [evS, cond_tt, cond_ff, absV, depthV, Nat.reduceEqDiff, Nat.reduceLT, ↓reduceIte, Option.map_some, Option.bind_some, List.toList_toArray, Tryz.tw, H.lay, Nat.zero_add, Nat.add_zero, ↓reduceIte, List.getElem?_cons_zero, List.getElem?_cons_succ, k0, k1, kp, w0, w2, w3, p1, p9, e1, e2]; rfl) ?_)); refine AOps.nil ?_
    refine AWp.ret ?_
    (try simp only [OutOf, Then, Round, NoGoto]); refine leaves_plain (by rfl) (by rfl) (fun _ => rfl) (by rfl) ⟨?_, rfl⟩; rfl
  cases e3 : decide (p.kmh ≤ w.km)
  all_goals
    (repeat refine AWp.seq ?_); change AWp _ _ _ _ _; refine AWp.region ?_; (repeat (first | refine AOps.v rfl rfl rfl rfl rfl (by simp only [evS, cond_tt, cond_ff, absV, depthV, Nat.reduceEqDiff, Nat.reduceLT, ↓reduceIte, Option.map_some, Option.bind_some, List.toList_toArray, Tryz.tw, H.lay, Nat.zero_add, Nat.add_zero, ↓reduceIte, List.getElem?_cons_zero, List.getElem?_cons_succ, k0, k1, kp, w0, w2, w3, p1, p9, e1, e2, e3]; rfl) ?_ | refine AOps.s rfl rfl rfl ?_ | refine AOps.u rfl rfl rfl rfl (by simp only [evS, cond_tt, cond_ff, absV, depthV, Nat.reduceEqDiff, Nat.reduceLT, ↓reduceIte, Option.map_some, Option.bind_some, List.toList_toArray, Tryz.tw, H.lay, Nat.zero_add, Nat.add_zero, ↓reduceIte, List.getElem?_cons_zero, List.getElem?_cons_succ, k0, k1, kp, w0, w2, w3, p1, p9, e1, e2, e3]; rfl) ?_)); refine AOps.nil ?_
    refine AWp.ret ?_
    (try simp only [OutOf, Then, Round, NoGoto]); refine leaves_plain (by rfl) (by rfl) (fun _ => rfl) (by rfl) ⟨?_, rfl⟩; rfl

end Go.Proofs
