/- Seat r1: the examples of chapter 44, run. No conditions beyond those that each theorem states. -/
import Derived.Test.YtpanlnnlhpnlcaaGreatSb
import Derived.Test.YtpanlnnlhpnlcaaGreatSd
import Derived.Test.YtpanlnnlhpnlcaaGreatSc
import Derived.Test.YtpanlnnlhpnlcaaGreatSa
import Derived.Test.YtpanlnnlhpnlcaaGreatGg
import Derived.ProofKit

set_option linter.unusedSimpArgs false
set_option linter.unusedVariables false
set_option linter.unusedSectionVars false

namespace Go.Proofs
open Go.Ev Go.RowKit
set_option maxRecDepth 100000

theorem xname_of {P : Program} {f : FuncId} (hc : ∀ s : List Nat, s.length ≤ 1000000 → (∀ b ∈ s, b < 256) → ∀ h, ACalls P (.func f) [.str s] h (fun v h' => v = .bool (nameN s) ∧ h' = h)) : XOne P f .name := by
  intro args h a h' hx σ w args' hv hr
  have hshape : ∃ s, args = [.str s] ∧ Nat.ble s.length 1000000 = true ∧ a = .bool (nameN s) ∧ h' = h := by
    unfold xA at hx
    split at hx <;> first
      | (obtain ⟨h1, h2⟩ := cond_some hx; cases h2; exact ⟨_, rfl, h1, rfl, rfl⟩)
      | simp_all
  obtain ⟨s, rfl, hl, rfl, rfl⟩ := hshape
  have hb : ∀ b ∈ s, b < 256 := by
    obtain ⟨x, rfl, hx⟩ := args1 hv
    cases hx with
    | str hs =>
      intro b hb
      rw [← hs] at hb
      obtain ⟨u, _, rfl⟩ := List.mem_map.1 hb
      exact u.toNat_lt
  refine (hc s (bleN hl) hb _ σ w args' hv hr).mono ?_
  rintro v w' ⟨a', h'', ⟨rfl, rfl⟩, rest⟩
  exact ⟨_, _, List.mem_singleton.2 rfl, rest⟩

theorem Tryz.xname48 : XOne Tryz.prog 48 .name := xname_of fun s h1 h2 h => Tryz.lexName s h1 h2 h
theorem Tryz.xname52 : XOne Tryz.prog 52 .name := xname_of fun s h1 _ h => Tryz.name05 s h1 h

theorem Tryz.info56' : Tryz.prog.info? 56 = some Tryz.t56 := by kernel_rfl
theorem Tryz.info60' : Tryz.prog.info? 60 = some Tryz.t60 := by kernel_rfl

theorem Tryz.xsort : XOne Tryz.prog 88 (.sort1 [56]) := XOne.sort1 Tryz.nogo Tryz.func88 (by kernel_rfl) (by
  intro t ht o l c lf la lb w h1 h2
  rw [List.mem_singleton.1 ht]
  have hf := fun f hf => Any.sort_Slice_tiny Tryz.laysGg6 56 60 Tryz.t56 Tryz.t60 Tryz.info56' (by kernel_rfl) (by kernel_rfl) Tryz.info60' 25 (fun _ => by kernel_rfl) o l c h1 f hf lf la lb w
  have h01 : l = 0 ∨ l = 1 := by omega
  refine Calls.mono (hf (if l = 0 then 181 else 182) (by rcases h01 with e | e <;> rw [e] <;> kernel_rfl)) ?_
  rintro e w' ⟨rfl, os, rfl⟩
  exact ⟨rfl, rfl, rfl, rfl, by rw [Go.Sort.size_grow]; omega, fun k hk => by simp [Go.Sort.grow, Array.getElem?_append, hk]⟩)

theorem Tryz.exs : ExOK Tryz.prog [(48, .name), (52, .name), (170, .clone), (127, .cmp), (88, .sort1 [56])] := .cons Tryz.xname48 (.cons Tryz.xname52 (.cons Tryz.xclone (.cons Tryz.xcmp (.cons Tryz.xsort .nil))))

theorem Tryz.head44_ev : ends (evVF Tryz.prog [(48, .name), (52, .name), (170, .clone), (127, .cmp), (88, .sort1 [56])] 300 60 (.func 23) [] hz) (.bool true) = true := by kernel_rfl

theorem Tryz.xhead44 : XOne Tryz.prog 23 (.const (.bool true)) :=
  XOne.const Tryz.nogo Tryz.exs Tryz.func23 (by kernel_rfl) rfl (by rw [← evVF_eq]; exact Tryz.head44_ev)

theorem Tryz.head44 (h : H) : ACalls Tryz.prog (.func 23) [] h (fun v h' => v = .bool true ∧ h' = h) := .of_x Tryz.xhead44 rfl

end Go.Proofs

/- Seat r1: what settle.Due's answer is, in plain words. No conditions beyond those that each theorem states. -/
namespace Go.Proofs
open Go.Ev

theorem revP_revP (k : Pr) : revP (revP k) = k := rfl

theorem dueX_rev (owed paid : List Xf) (k : Pr) : dueX owed paid (revP k) = - dueX owed paid k := by
  unfold dueX; rw [revP_revP]; omega

theorem sumX_append (a b : List Xf) (k : Pr) : sumX (a ++ b) k = sumX a k + sumX b k := by
  unfold sumX; rw [List.map_append, List.sum_append]

theorem sumX_mem {ts : List Xf} {k : Pr} (h : sumX ts k ≠ 0) : ∃ t ∈ ts, t.key = k := by
  induction ts with
  | nil => exact absurd rfl h
  | cons t ts ih =>
    by_cases hk : t.key = k
    · exact ⟨t, List.mem_cons_self .., hk⟩
    · have : sumX (t :: ts) k = sumX ts k := by unfold sumX; simp [hk]
      rw [this] at h
      obtain ⟨u, hu, e⟩ := ih h
      exact ⟨u, List.mem_cons_of_mem _ hu, e⟩

theorem sumX_none {ts : List Xf} {k : Pr} (h : ∀ t ∈ ts, t.key ≠ k) : sumX ts k = 0 := by
  apply Decidable.byContradiction
  intro hne
  obtain ⟨t, ht, e⟩ := sumX_mem hne
  exact h t ht e

theorem sumX_one {ts : List Xf} (hnd : (ts.map Xf.key).Nodup) {t : Xf} (ht : t ∈ ts) : sumX ts t.key = t.am := by
  induction ts with
  | nil => cases ht
  | cons u ts ih =>
    rw [List.map_cons, List.nodup_cons] at hnd
    have hc : sumX (u :: ts) t.key = (if u.key = t.key then u.am else 0) + sumX ts t.key := by unfold sumX; simp
    rw [hc]
    rcases List.mem_cons.1 ht with rfl | ht
    · rw [if_pos rfl, sumX_none (fun t' ht' (e : t'.key = t.key) => hnd.1 (e ▸ List.mem_map_of_mem ht'))]; omega
    · rw [if_neg (fun (e : u.key = t.key) => hnd.1 (e ▸ List.mem_map_of_mem ht)), ih hnd.2 ht]; omega

/-- What is handed back when nothing is wrong. -/
structure GoodX (owed paid ts : List Xf) : Prop where
  sane : oddX owed paid = false
  keys : (ts.map Xf.key).Nodup
  amt : ∀ t ∈ ts, t.am = dueX owed paid t.key ∧ 0 < t.am ∧ t.am ≤ 1000000000000
  has : ∀ k, 0 < dueX owed paid k → ∃ t ∈ ts, t.key = k
  sorted : SortedX ts

theorem toX_key (e : Pr × Int) : (toX e).key = e.1 := rfl

theorem GoodX.of {owed paid ts : List Xf} {net : List (Pr × Int)} (ho : oddX owed paid = false) (hn : nodupM net) (hg : ∀ k, getM 0 k net = dueX owed paid k) (hb : ∀ e ∈ net, e.2 ≤ 1000000000000) (hp : ts.Perm (posX net)) (hs : SortedX ts) : GoodX owed paid ts where
  sane := ho
  keys := by
    have h1 : (posX net).map Xf.key = (net.filter fun e => decide (0 < e.2)).map (·.1) := by
      unfold posX; rw [List.map_map]; rfl
    have h2 : ((posX net).map Xf.key).Nodup := by
      rw [h1]
      exact List.Nodup.sublist (List.filter_sublist.map _) hn
    exact (hp.map _).nodup_iff.2 h2
  amt := by
    intro t ht
    have h1 := hp.mem_iff.1 ht
    unfold posX at h1
    obtain ⟨e, he, rfl⟩ := List.mem_map.1 h1
    obtain ⟨he1, he2⟩ := List.mem_filter.1 he
    have h3 : getM 0 e.1 net = e.2 := getM_of_mem hn (show (e.1, e.2) ∈ net from he1)
    rw [toX_key, ← hg, h3]
    exact ⟨rfl, of_decide_eq_true he2, hb e he1⟩
  has := by
    intro k hk
    rw [← hg] at hk
    have h1 : hasM k net = true := by
      cases hh : hasM k net
      · rw [getM_not hh] at hk; exact absurd hk (by omega)
      · rfl
    have h2 := mem_of_hasM (u0 := 0) h1
    refine ⟨toX (k, getM 0 k net), hp.mem_iff.2 ?_, rfl⟩
    unfold posX
    exact List.mem_map_of_mem (List.mem_filter.2 ⟨h2, by simpa using hk⟩)
  sorted := hs

theorem oddX_ok {owed paid : List Xf} (h : oddX owed paid = false) : ∀ t, t ∈ owed ∨ t ∈ paid → t.ok = true := by
  unfold oddX at h
  rw [Bool.or_eq_false_iff, List.any_eq_false, List.any_eq_false] at h
  intro t ht
  have : ¬ (!t.ok) = true := by
    rcases ht with ht | ht
    · exact h.1 t ht
    · exact h.2 t ht
  simpa using this

theorem ok_iff (t : Xf) : t.ok = true ↔ nameN t.fr = true ∧ nameN t.to = true ∧ t.fr ≠ t.to ∧ 0 ≤ t.am ∧ t.am ≤ 1000000000000 := by
  unfold Xf.ok isAm
  simp [Bool.and_eq_true, and_assoc]

theorem dueX_mem {owed paid : List Xf} {k : Pr} (h : dueX owed paid k ≠ 0) : ∃ t, (t ∈ owed ∨ t ∈ paid) ∧ (t.key = k ∨ t.key = revP k) := by
  unfold dueX at h
  by_cases h1 : sumX owed k = 0
  · by_cases h2 : sumX paid k = 0
    · by_cases h3 : sumX owed (revP k) = 0
      · by_cases h4 : sumX paid (revP k) = 0
        · exact absurd (by omega) h
        · obtain ⟨t, h5, h6⟩ := sumX_mem h4; exact ⟨t, .inr h5, .inr h6⟩
      · obtain ⟨t, h5, h6⟩ := sumX_mem h3; exact ⟨t, .inl h5, .inr h6⟩
    · obtain ⟨t, h5, h6⟩ := sumX_mem h2; exact ⟨t, .inr h5, .inl h6⟩
  · obtain ⟨t, h5, h6⟩ := sumX_mem h1; exact ⟨t, .inl h5, .inl h6⟩

theorem GoodX.ok {owed paid ts : List Xf} (hg : GoodX owed paid ts) : ∀ t ∈ ts, t.ok = true := by
  intro t ht
  obtain ⟨h1, h2, h3⟩ := hg.amt t ht
  obtain ⟨u, hu, hk⟩ := dueX_mem (owed := owed) (paid := paid) (k := t.key) (by omega)
  obtain ⟨g1, g2, g3, g4, g5⟩ := (ok_iff u).1 (oddX_ok hg.sane u hu)
  rcases hk with hk | hk
  · have e1 : u.fr = t.fr := congrArg Prod.fst hk
    have e2 : u.to = t.to := congrArg Prod.snd hk
    rw [e1, e2] at g3
    rw [e1] at g1; rw [e2] at g2
    exact (ok_iff t).2 ⟨g1, g2, g3, by omega, h3⟩
  · have e1 : u.fr = t.to := congrArg Prod.fst hk
    have e2 : u.to = t.fr := congrArg Prod.snd hk
    rw [e1, e2] at g3
    rw [e1] at g1; rw [e2] at g2
    exact (ok_iff t).2 ⟨g2, g1, Ne.symm g3, by omega, h3⟩

theorem GoodX.anti {owed paid ts : List Xf} (hg : GoodX owed paid ts) {a b : Xf} (ha : a ∈ ts) (hb : b ∈ ts) : ¬ (a.fr = b.to ∧ a.to = b.fr) := by
  rintro ⟨h1, h2⟩
  obtain ⟨a1, a2, _⟩ := hg.amt a ha
  obtain ⟨b1, b2, _⟩ := hg.amt b hb
  have : b.key = revP a.key := by unfold Xf.key revP; rw [h1, h2]
  rw [this, dueX_rev] at b1
  omega

theorem GoodX.lt {owed paid ts : List Xf} (hg : GoodX owed paid ts) {i j : Nat} {a b : Xf} (hij : i < j) (ha : ts[i]? = some a) (hb : ts[j]? = some b) : ltX a b = true := by
  have hi : i < ts.length := by
    apply Decidable.byContradiction; intro h; rw [List.getElem?_eq_none (by omega)] at ha; cases ha
  have hj : j < ts.length := by
    apply Decidable.byContradiction; intro h; rw [List.getElem?_eq_none (by omega)] at hb; cases hb
  rw [List.getElem?_eq_getElem hi] at ha
  rw [List.getElem?_eq_getElem hj] at hb
  have hs : ltX b a = false := by
    have := List.pairwise_iff_getElem.1 hg.sorted i j hi hj hij
    cases ha; cases hb; exact this
  rcases ltX_tri a b with h | ⟨h1, h2⟩ | h
  · exact h
  · exfalso
    have hk : (ts.map Xf.key)[i]'(by rw [List.length_map]; exact hi) = (ts.map Xf.key)[j]'(by rw [List.length_map]; exact hj) := by
      rw [List.getElem_map, List.getElem_map]
      cases ha; cases hb
      unfold Xf.key; rw [h1, h2]
    exact absurd hk (List.pairwise_iff_getElem.1 hg.keys i j _ _ hij)
  · rw [hs] at h; cases h

theorem GoodX.sum {owed paid ts : List Xf} (hg : GoodX owed paid ts) (k : Pr) : sumX ts k = if 0 < dueX owed paid k then dueX owed paid k else 0 := by
  split
  · rename_i h
    obtain ⟨t, ht, e⟩ := hg.has k h
    subst e
    rw [sumX_one hg.keys ht, (hg.amt t ht).1]
  · rename_i h
    refine sumX_none fun t ht e => ?_
    obtain ⟨h1, h2, _⟩ := hg.amt t ht
    rw [e] at h1
    omega

theorem GoodX.settled {owed paid ts : List Xf} (hg : GoodX owed paid ts) (k : Pr) : dueX owed (paid ++ ts) k = 0 := by
  have h1 := hg.sum k
  have h2 := hg.sum (revP k)
  rw [dueX_rev] at h2
  have h3 : dueX owed (paid ++ ts) k = dueX owed paid k - sumX ts k + sumX ts (revP k) := by
    unfold dueX; rw [sumX_append, sumX_append]; omega
  rw [h3, h1, h2]
  split <;> split <;> omega

theorem oddX_append {owed paid ts : List Xf} (h : oddX owed paid = false) (hts : ∀ t ∈ ts, t.ok = true) : oddX owed (paid ++ ts) = false := by
  unfold oddX at h ⊢
  rw [Bool.or_eq_false_iff] at h ⊢
  refine ⟨h.1, ?_⟩
  rw [List.any_append, h.2, Bool.false_or, List.any_eq_false]
  intro t ht
  rw [hts t ht]; decide

theorem GoodX.again {owed paid ts : List Xf} (hg : GoodX owed paid ts) {h h' : H} {v : AV} (hd : DueQ h owed (paid ++ ts) v h') : v = .tup [.slice none 0 0 (some 0), .int .i64 0] ∧ h' = h := by
  rcases hd with ⟨ho, _⟩ | ⟨_, net, hn, hk, hq⟩
  · rw [oddX_append hg.sane hg.ok] at ho; cases ho
  · have hz : ∀ e ∈ net, e.2 = 0 := fun e he => by
      have h1 : getM 0 e.1 net = e.2 := getM_of_mem hn (show (e.1, e.2) ∈ net from he)
      rw [← h1, hk, hg.settled]
    rcases hq with ⟨⟨e, he, hlt⟩, _⟩ | ⟨_, us, hp, _, rfl, rfl⟩
    · rw [hz e he] at hlt; omega
    · have : posX net = [] := by
        unfold posX
        rw [List.map_eq_nil_iff, List.filter_eq_nil_iff]
        intro e he
        rw [hz e he]; decide
      rw [this] at hp
      have := hp.eq_nil
      subst this
      exact ⟨rfl, rfl⟩

theorem GoodX.len {owed paid ts : List Xf} (hg : GoodX owed paid ts) : ts.length ≤ owed.length + paid.length := by
  have hsub : ∀ t ∈ ts, t.key ∈ (owed ++ paid).map Xf.key ∨ revP t.key ∈ (owed ++ paid).map Xf.key := by
    intro t ht
    obtain ⟨h1, h2, h3⟩ := hg.amt t ht
    obtain ⟨u, hu, hk⟩ := dueX_mem (owed := owed) (paid := paid) (k := t.key) (by omega)
    have hm : u.key ∈ (owed ++ paid).map Xf.key := List.mem_map_of_mem (List.mem_append.2 hu)
    rcases hk with hk | hk
    · exact .inl (hk ▸ hm)
    · exact .inr (hk ▸ hm)
  -- each row is put at its key, or at the reverse
  have hmap : ∀ t ∈ ts, (if t.key ∈ (owed ++ paid).map Xf.key then t.key else revP t.key) ∈ (owed ++ paid).map Xf.key := by
    intro t ht
    split
    · assumption
    · rename_i hn
      exact (hsub t ht).resolve_left hn
  have hnd : (ts.map fun t => if t.key ∈ (owed ++ paid).map Xf.key then t.key else revP t.key).Nodup := by
    rw [List.Nodup, List.pairwise_map]
    have hpw : ts.Pairwise (fun a b => a.key ≠ b.key) := by
      have := hg.keys
      rw [List.Nodup, List.pairwise_map] at this
      exact this
    refine List.Pairwise.imp_of_mem ?_ hpw
    intro a b ha hb hab
    have han := hg.anti ha hb
    have hn1 : a.key ≠ revP b.key := fun e => han ⟨congrArg Prod.fst e, congrArg Prod.snd e⟩
    split <;> split
    · exact hab
    · exact hn1
    · intro e; exact hn1 (by rw [← e, revP_revP])
    · intro e; exact hab (by rw [← revP_revP a.key, e, revP_revP])
  have hl := hnd.length_le_of_subset (l₂ := (owed ++ paid).map Xf.key) (by
    intro k hk
    obtain ⟨t, ht, rfl⟩ := List.mem_map.1 hk
    exact hmap t ht)
  rw [List.length_map, List.length_map, List.length_append] at hl
  exact hl

theorem GoodX.fits {owed paid ts : List Xf} (hg : GoodX owed paid ts) (ho : ∀ t ∈ owed, t.fits) (hp : ∀ t ∈ paid, t.fits) : ∀ t ∈ ts, t.fits := by
  intro t ht
  obtain ⟨h1, h2, h3⟩ := hg.amt t ht
  obtain ⟨u, hu, hk⟩ := dueX_mem (owed := owed) (paid := paid) (k := t.key) (by omega)
  have hf : u.fits := hu.elim (ho u) (hp u)
  obtain ⟨f1, f2, f3, f4⟩ := hf
  rcases hk with hk | hk
  · have e1 : u.fr = t.fr := congrArg Prod.fst hk
    have e2 : u.to = t.to := congrArg Prod.snd hk
    rw [e1] at f1 f3; rw [e2] at f2 f4
    exact ⟨f1, f2, f3, f4⟩
  · have e1 : u.fr = t.to := congrArg Prod.fst hk
    have e2 : u.to = t.fr := congrArg Prod.snd hk
    rw [e1] at f1 f3; rw [e2] at f2 f4
    exact ⟨f2, f1, f4, f3⟩

theorem fewX_len {ts : List Xf} (h : fewX ts = true) : ts.length ≤ 60 := by
  unfold fewX at h
  rw [Bool.and_eq_true] at h
  simpa using h.1

theorem fewX_fits {ts : List Xf} (h : fewX ts = true) (hb : ∀ t ∈ ts, (∀ b ∈ t.fr, b < 256) ∧ ∀ b ∈ t.to, b < 256) : ∀ t ∈ ts, t.fits := by
  unfold fewX at h
  rw [Bool.and_eq_true, List.all_eq_true] at h
  intro t ht
  have := h.2 t ht
  unfold Xf.few at this
  rw [Bool.and_eq_true] at this
  have h1 : t.fr.length ≤ 100 := by simpa using this.1
  have h2 : t.to.length ≤ 100 := by simpa using this.2
  exact ⟨by omega, by omega, (hb t ht).1, (hb t ht).2⟩

/-- What is handed back lies in memory, over what lay there. -/
theorem back_over (h : H) (ts : List Xf) : Over h.next h (backX h ts).2 ∧ RdX (backX h ts).2 (backX h ts).1 ts := by
  unfold backX
  split
  · rename_i e
    subst e
    exact ⟨Over.refl _ _, ⟨fun r hr => (List.not_mem_nil hr).elim, .inl ⟨rfl, _, _, _, rfl⟩⟩⟩
  · rename_i e
    have hw : ∀ r ∈ ts.map Xf.cells, r.length = 3 := by intro r hr; obtain ⟨t, _, rfl⟩ := List.mem_map.1 hr; rfl
    refine ⟨⟨Nat.le_succ _, fun j hj => put_other _ _ (by omega), fun j hj => put_other _ _ (by omega), fun _ => rfl⟩, hw, .inr ⟨h.next, 0, none, (ts.map Xf.cells).flatten, ?_, Nat.lt_succ_self _, ?_, ?_, ?_⟩⟩
    · rw [List.length_map]
    · show rowO (Tr.put h.objs h.next _) h.next = _
      rw [rowO_put, if_pos rfl]; rfl
    · have := flat_len hw; omega
    · have := flat_len hw
      rw [List.drop_zero, List.take_of_length_le (by omega)]

end Go.Proofs

/- Seat r1: balances of lists of transfers, in plain words. No conditions beyond those that each theorem states. -/
namespace Go.Proofs
open Go.Ev

/-- What a party has coming, less what it owes. -/
def balE (t : Xf) (p : List Nat) : Int := (if t.to = p then t.am else 0) - (if t.fr = p then t.am else 0)
def balX (ts : List Xf) (p : List Nat) : Int := (ts.map fun t => balE t p).sum

theorem balX_snoc (ts : List Xf) (t : Xf) (p : List Nat) : balX (ts ++ [t]) p = balX ts p + balE t p := by
  unfold balX; rw [List.map_append, List.sum_append]; simp

theorem balE_bnd {t : Xf} (h : 0 ≤ t.am ∧ t.am ≤ 1000000000000) (p : List Nat) : -1000000000000 ≤ balE t p ∧ balE t p ≤ 1000000000000 := by
  unfold balE; split <;> split <;> omega

theorem balX_bnd : ∀ (ts : List Xf), (∀ t ∈ ts, 0 ≤ t.am ∧ t.am ≤ 1000000000000) → ∀ p, -((ts.length : Int) * 1000000000000) ≤ balX ts p ∧ balX ts p ≤ (ts.length : Int) * 1000000000000
  | [], _, p => by simp [balX]
  | t :: ts, h, p => by
    have h1 := balX_bnd ts (fun u hu => h u (List.mem_cons_of_mem _ hu)) p
    have h2 := balE_bnd (h t (List.mem_cons_self ..)) p
    have h3 : balX (t :: ts) p = balE t p + balX ts p := by unfold balX; simp
    rw [h3, List.length_cons]
    omega

def ddup : List (List Nat) → List (List Nat)
  | [] => []
  | x :: l => if x ∈ ddup l then ddup l else x :: ddup l

theorem mem_ddup (x : List Nat) : ∀ l, x ∈ ddup l ↔ x ∈ l
  | [] => Iff.rfl
  | y :: l => by
    unfold ddup
    have ih := mem_ddup x l
    split
    · rename_i h
      rw [ih, List.mem_cons]
      constructor
      · exact .inr
      · rintro (rfl | h2)
        · exact ih.1 h
        · exact h2
    · rw [List.mem_cons, List.mem_cons, ih]

theorem nodup_ddup : ∀ l, (ddup l).Nodup
  | [] => List.nodup_nil
  | y :: l => by
    unfold ddup
    split
    · exact nodup_ddup l
    · rename_i h
      exact List.nodup_cons.2 ⟨h, nodup_ddup l⟩

theorem sum_none {Q : List (List Nat)} {x : List Nat} {a : Int} (h : x ∉ Q) : (Q.map fun q => if x = q then a else 0).sum = 0 := by
  induction Q with
  | nil => rfl
  | cons q Q ih =>
    rw [List.map_cons, List.sum_cons, if_neg (fun (e : x = q) => h (e ▸ List.mem_cons_self ..)), ih (fun hm => h (List.mem_cons_of_mem _ hm))]; rfl

theorem sum_one {Q : List (List Nat)} (hn : Q.Nodup) {x : List Nat} (hx : x ∈ Q) (a : Int) : (Q.map fun q => if x = q then a else 0).sum = a := by
  induction Q with
  | nil => cases hx
  | cons q Q ih =>
    rw [List.nodup_cons] at hn
    rw [List.map_cons, List.sum_cons]
    rcases List.mem_cons.1 hx with rfl | hx
    · rw [if_pos rfl, sum_none hn.1]; omega
    · rw [if_neg (fun (e : x = q) => hn.1 (e ▸ hx)), ih hn.2 hx]; omega

theorem sum_zero (Q : List (List Nat)) : (Q.map fun _ => (0 : Int)).sum = 0 := by
  induction Q with
  | nil => rfl
  | cons q Q ih => rw [List.map_cons, List.sum_cons, ih]; rfl

theorem sum_add (Q : List (List Nat)) (F G : List Nat → Int) : (Q.map fun q => F q + G q).sum = (Q.map F).sum + (Q.map G).sum := by
  induction Q with
  | nil => rfl
  | cons q Q ih => rw [List.map_cons, List.map_cons, List.map_cons, List.sum_cons, List.sum_cons, List.sum_cons, ih]; omega

theorem sum_sub (Q : List (List Nat)) (F G : List Nat → Int) : (Q.map fun q => F q - G q).sum = (Q.map F).sum - (Q.map G).sum := by
  induction Q with
  | nil => rfl
  | cons q Q ih => rw [List.map_cons, List.map_cons, List.map_cons, List.sum_cons, List.sum_cons, List.sum_cons, ih]; omega

theorem sumX_cons (t : Xf) (ts : List Xf) (k : Pr) : sumX (t :: ts) k = (if t.key = k then t.am else 0) + sumX ts k := by unfold sumX; simp

theorem balX_keys {Q : List (List Nat)} (hn : Q.Nodup) (p : List Nat) : ∀ (ts : List Xf), (∀ t ∈ ts, t.fr ∈ Q ∧ t.to ∈ Q) → balX ts p = (Q.map fun q => sumX ts (q, p) - sumX ts (p, q)).sum
  | [], _ => by
    have : (Q.map fun q => sumX [] (q, p) - sumX [] (p, q)) = Q.map fun _ => (0 : Int) := by rfl
    rw [this, sum_zero]; rfl
  | t :: ts, h => by
    have ih := balX_keys hn p ts fun u hu => h u (List.mem_cons_of_mem _ hu)
    obtain ⟨h1, h2⟩ := h t (List.mem_cons_self ..)
    have h3 : balX (t :: ts) p = balE t p + balX ts p := by unfold balX; simp
    have e1 : (Q.map fun q => if t.key = (q, p) then t.am else 0).sum = if t.to = p then t.am else 0 := by
      by_cases hp : t.to = p
      · rw [if_pos hp]
        have : (Q.map fun q => if t.key = (q, p) then t.am else 0) = Q.map fun q => if t.fr = q then t.am else 0 := by
          refine List.map_congr_left fun q _ => ?_
          unfold Xf.key
          rw [hp]; simp
        rw [this, sum_one hn h1]
      · rw [if_neg hp]
        have : (Q.map fun q => if t.key = (q, p) then t.am else 0) = Q.map fun _ => (0 : Int) := by
          refine List.map_congr_left fun q _ => ?_
          unfold Xf.key
          simp [hp]
        rw [this, sum_zero]
    have e2 : (Q.map fun q => if t.key = (p, q) then t.am else 0).sum = if t.fr = p then t.am else 0 := by
      by_cases hp : t.fr = p
      · rw [if_pos hp]
        have : (Q.map fun q => if t.key = (p, q) then t.am else 0) = Q.map fun q => if t.to = q then t.am else 0 := by
          refine List.map_congr_left fun q _ => ?_
          unfold Xf.key
          rw [hp]; simp
        rw [this, sum_one hn h2]
      · rw [if_neg hp]
        have : (Q.map fun q => if t.key = (p, q) then t.am else 0) = Q.map fun _ => (0 : Int) := by
          refine List.map_congr_left fun q _ => ?_
          unfold Xf.key
          simp [hp]
        rw [this, sum_zero]
    rw [h3, ih]
    simp only [sumX_cons]
    rw [sum_sub, sum_sub, sum_add, sum_add, e1, e2]
    unfold balE
    omega

theorem GoodX.bal {owed paid ts : List Xf} (hg : GoodX owed paid ts) (p : List Nat) : balX owed p = balX paid p + balX ts p := by
  have hQ := nodup_ddup ((owed ++ paid ++ ts).map Xf.fr ++ (owed ++ paid ++ ts).map Xf.to)
  have hin : ∀ t, t ∈ owed ++ paid ++ ts → t.fr ∈ ddup ((owed ++ paid ++ ts).map Xf.fr ++ (owed ++ paid ++ ts).map Xf.to) ∧ t.to ∈ ddup ((owed ++ paid ++ ts).map Xf.fr ++ (owed ++ paid ++ ts).map Xf.to) := by
    intro t ht
    rw [mem_ddup, mem_ddup, List.mem_append, List.mem_append]
    exact ⟨.inl (List.mem_map_of_mem ht), .inr (List.mem_map_of_mem ht)⟩
  generalize ddup ((owed ++ paid ++ ts).map Xf.fr ++ (owed ++ paid ++ ts).map Xf.to) = Q at hQ hin
  rw [balX_keys hQ p owed (fun t ht => hin t (List.mem_append_left _ (List.mem_append_left _ ht))), balX_keys hQ p paid (fun t ht => hin t (List.mem_append_left _ (List.mem_append_right _ ht))), balX_keys hQ p ts (fun t ht => hin t (List.mem_append_right _ ht)), ← sum_add]
  congr 1
  refine List.map_congr_left fun q _ => ?_
  have h1 := hg.sum (q, p)
  have h2 := hg.sum (p, q)
  have h3 : dueX owed paid (p, q) = - dueX owed paid (q, p) := dueX_rev owed paid (q, p)
  rw [h3] at h2
  have h4 : dueX owed paid (q, p) = (sumX owed (q, p) - sumX paid (q, p)) - (sumX owed (p, q) - sumX paid (p, q)) := rfl
  rw [h1, h2]
  split <;> split <;> omega

end Go.Proofs

/- Seat r1: a list of transfers as an argument of a law. No conditions beyond those that each theorem states. -/
namespace Go.Proofs
open Go.Ev Go.RowKit Go.ChangeShapes Go.WideShapes Go.ChangeAt Go.Deep

set_option maxRecDepth 100000

theorem three {α : Type} : ∀ {l : List α}, l.length = 3 → ∃ a b c, l = [a, b, c]
  | [a, b, c], _ => ⟨a, b, c, rfl⟩

section
variable {H : Type} {enc : TypeId × Value → H} {W : World}

def RowX (r : List AV) : Prop := ∃ t : Xf, r = t.cells ∧ ((∀ x ∈ t.fr, x < 256) ∧ ∀ x ∈ t.to, x < 256) ∧ -9223372036854775808 ≤ t.am ∧ t.am ≤ 9223372036854775807

theorem Tryz.cof60 : Tryz.prog.cellsOf 60 = 3 := by kernel_rfl
theorem Tryz.cof9 : Tryz.prog.cellsOf 9 = 1 := by kernel_rfl
theorem Tryz.cof3 : Tryz.prog.cellsOf 3 = 1 := by kernel_rfl

theorem Tryz.row60 (n : Nat) (cs : List Value) (y : DataW H × List MemPlace) (h : DataW.trod enc Tryz.prog W 0 (fun _ => true) true n 60 cs = some y) :
    ∃ r : List AV, RowX r ∧ r.length = cs.length ∧ ∀ (k : Nat) (a : AV) (u : Value), r[k]? = some a → cs[k]? = some u → ∀ σ : Sg, V σ a u := by
  obtain ⟨y0, y1, y2, m, _, hl, h0, h1, h2⟩ := trod_struct3 Tryz.underlying60 h
  rw [Tryz.cof60] at hl
  obtain ⟨c0, c1, c2, rfl⟩ := three hl
  · simp only [Tryz.cof9, Tryz.cof3, List.drop_zero, List.drop_succ_cons, List.take_succ_cons, List.take_zero] at h0 h1 h2
    obtain ⟨s0, e0, _⟩ := DataW.trod_string Tryz.underlying9 h0
    obtain ⟨s1, e1, _⟩ := DataW.trod_string Tryz.underlying9 h1
    obtain ⟨n2, e2, _, wf2⟩ := DataW.trod_int Tryz.underlying3 h2
    simp only [List.cons.injEq, and_true] at e0 e1 e2
    subst e0; subst e1; subst e2
    refine ⟨(Xf.mk (s0.data.toList.map (·.toNat)) (s1.data.toList.map (·.toNat)) n2).cells, ⟨_, rfl, ⟨bytes_lt s0, bytes_lt s1⟩, by simpa [Lit.wf, IntKind.min, IntKind.max, IntKind.signed, IntKind.bits] using wf2⟩, rfl, ?_⟩
    intro k a u ha hu σ
    match k with
    | 0 => simp [Xf.cells] at ha hu; subst ha; subst hu; exact str_V σ s0
    | 1 => simp [Xf.cells] at ha hu; subst ha; subst hu; exact str_V σ s1
    | 2 => simp [Xf.cells] at ha hu; subst ha; subst hu; exact .int _ _
    | k + 3 => simp [Xf.cells] at ha

theorem rowsX {rows : List (List AV)} (h : ∀ r ∈ rows, RowX r) : ∃ ts : List Xf, rows = ts.map Xf.cells ∧ ∀ t ∈ ts, ((∀ x ∈ t.fr, x < 256) ∧ ∀ x ∈ t.to, x < 256) ∧ -9223372036854775808 ≤ t.am ∧ t.am ≤ 9223372036854775807 := by
  induction rows with
  | nil => exact ⟨[], rfl, fun t ht => (List.not_mem_nil ht).elim⟩
  | cons r rows ih =>
    obtain ⟨ts, rfl, hts⟩ := ih fun r hr => h r (List.mem_cons_of_mem _ hr)
    obtain ⟨t, rfl, ht⟩ := h r (List.mem_cons_self ..)
    refine ⟨t :: ts, rfl, fun u hu => ?_⟩
    rcases List.mem_cons.1 hu with rfl | hu
    · exact ht
    · exact hts u hu

/-- A list of transfers. -/
structure ArgX (W : World) (v : Value) (g : Nat → AV) (x : Plc × Option (List AV)) (ts : List Xf) : Prop where
  rel : ∀ (σ : Sg) (id : Nat), σ id = some x.1 → V σ (g id) v
  rds : ∀ (h : Ev.H) (id : Nat), id < h.next → h.objs.get id = x.2.map .ro → RdX h (g id) ts
  mem : InMem W x
  row : ∀ t ∈ ts, (∀ x ∈ t.fr, x < 256) ∧ ∀ x ∈ t.to, x < 256
  rng : ∀ t ∈ ts, -9223372036854775808 ≤ t.am ∧ t.am ≤ 9223372036854775807
  top : ∀ id n, eqTop (n + 1) (g id) (g id) = true

theorem argX {v : Value} {base : Nat} {d : DataW H} {ps : List MemPlace} (hval : Value.okWide Tryz.prog W .any base 56 v) (hd : DataW.Trod enc Tryz.prog W 0 (fun _ => true) true 56 v d ps) : ∃ g x ts, ArgX W v g x ts := by
  obtain ⟨a, n, c, rfl⟩ := okWide_slice Tryz.underlying56 hval
  obtain ⟨g, x, rows, hs⟩ := Slc.of (R := RowX) rfl Tryz.underlying56 Tryz.cof60 (by decide) hd Tryz.row60
  obtain ⟨ts, rfl, hts⟩ := rowsX hs.row
  exact ⟨g, x, ts, hs.rel, hs.rds, hs.mem, fun t ht => (hts t ht).1, fun t ht => (hts t ht).2, hs.top⟩
end
end Go.Proofs

/- Seat r1: a law of two lists of transfers. No conditions beyond those that each theorem states. -/
namespace Go.Proofs.YtpanlnnlhpnlcaaGreat
open Go.Proofs Go.Ev Go.ChangeShapes Go.WideShapes Go.ChangeAt Go.RowKit

set_option maxRecDepth 100000

theorem ownK : ownKnob Tryz.prog.godebug = none := by kernel_rfl
theorem outL : laidOutB Tryz.prog = true := by kernel_rfl

theorem sgL_at {l : ArgL} {i : Nat} {x : Plc × Option (List AV)} (h : l[i]? = some x) : sgL l i = some x.1 := by unfold sgL; rw [h]; rfl

/-- Two lists of transfers as the arguments of a law. -/
theorem two_run {f : FuncId} {fn : Func} (hf : Tryz.prog.funcs[f]? = some fn) (hb : fn.body.isSome = true) {W : World} {v0 v1 : Value} {g0 g1 : Nat → AV} {x0 x1 : Plc × Option (List AV)} {ts0 ts1 : List Xf} (h0 : ArgX W v0 g0 x0 ts0) (h1 : ArgX W v1 g1 x1 ts1)
    (hlaw : ∀ (h : Ev.H), RdX h (g0 0) ts0 → RdX h (g1 1) ts1 → ACalls Tryz.prog (.func f) [g0 0, g1 1] h (fun r h' => r = .bool true ∧ h' = h)) : Calls Tryz.prog f #[v0, v1] W fun e W' => e = .returned (.bool true) ∧ Below W.heap.size W W' := by
  refine law_run Tryz.nogo hf hb (l := [x0, x1]) (args := [g0 0, g1 1]) ?_ ?_ (hlaw _ (h0.rds _ 0 (show 0 < 2 from by decide) (by rw [hpL_get]; rfl)) (h1.rds _ 1 (show 1 < 2 from by decide) (by rw [hpL_get]; rfl)))
  · intro x hx
    rcases List.mem_cons.1 hx with rfl | hx
    · exact h0.mem
    · rw [List.mem_singleton.1 hx]; exact h1.mem
  · exact .cons (h0.rel _ 0 (sgL_at rfl)) (.cons (h1.rel _ 1 (sgL_at rfl)) .nil)

/-- Two lists of transfers and an integer as the arguments of a law. -/
theorem three_run {f : FuncId} {fn : Func} (hf : Tryz.prog.funcs[f]? = some fn) (hb : fn.body.isSome = true) {W : World} {v0 v1 : Value} {k : IntKind} {n : Int} {g0 g1 : Nat → AV} {x0 x1 : Plc × Option (List AV)} {ts0 ts1 : List Xf} (h0 : ArgX W v0 g0 x0 ts0) (h1 : ArgX W v1 g1 x1 ts1)
    (hlaw : ∀ (h : Ev.H), RdX h (g0 0) ts0 → RdX h (g1 1) ts1 → ACalls Tryz.prog (.func f) [g0 0, g1 1, .int k n] h (fun r h' => r = .bool true ∧ h' = h)) : Calls Tryz.prog f #[v0, v1, .int k n] W fun e W' => e = .returned (.bool true) ∧ Below W.heap.size W W' := by
  refine law_run Tryz.nogo hf hb (l := [x0, x1]) (args := [g0 0, g1 1, .int k n]) ?_ ?_ (hlaw _ (h0.rds _ 0 (show 0 < 2 from by decide) (by rw [hpL_get]; rfl)) (h1.rds _ 1 (show 1 < 2 from by decide) (by rw [hpL_get]; rfl)))
  · intro x hx
    rcases List.mem_cons.1 hx with rfl | hx
    · exact h0.mem
    · rw [List.mem_singleton.1 hx]; exact h1.mem
  · exact .cons (h0.rel _ 0 (sgL_at rfl)) (.cons (h1.rel _ 1 (sgL_at rfl)) (.cons (.int _ _) .nil))

end Go.Proofs.YtpanlnnlhpnlcaaGreat
