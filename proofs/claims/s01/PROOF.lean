import PyProof.Rows.All
import Wide.All
import OpenK.AllK
import Wide.FinOn
import Open.SpecLaws
import KE.OsGo
import HandS.ForSpec
import HandS.Comp
import HandS.Dict
import HandS.WordsDict
import HandS.Conv
import HandS.Style
import HandS.NoneIn
import HandS.Iter
import PySem.Challenge.RW_icebounds_s01_answers
set_option Elab.async false
/-! Plain law, part 1: sizes, distances, bounds, consistency, sums, steps. No program in sight. -/
namespace IceM
open Km563

theorem nd_le : ∀ (n : Nat) (l : List Nat), l.Nodup → (∀ x ∈ l, x < n) → l.length ≤ n
  | 0, l, _, h => by
    cases l with
    | nil => simp
    | cons a r => exact absurd (h a (by simp)) (by omega)
  | n + 1, l, nd, h => by
    have q := nd_le n (l.erase n) (nd.erase n) (fun x hx => by
      have h1 := (nd.mem_erase_iff).mp hx
      have h2 := h x h1.2
      omega)
    by_cases m : n ∈ l
    · rw [List.length_erase_of_mem m] at q
      omega
    · rw [List.erase_of_not_mem m] at q
      omega

/-- what the walk knows of a field: sizes; consistency stands apart -/
structure Sized (F : IceField) : Prop where
  c1 : 1 ≤ F.columns
  c5 : F.columns ≤ 5
  r1 : 1 ≤ F.rows
  r5 : F.rows ≤ 5
  s20 : F.maxStep ≤ 20
  cells : ∀ m ∈ F.measurements, m.1 < F.columns * F.rows
  thick : ∀ m ∈ F.measurements, m.2 ≤ 99
  nd : (F.measurements.map (·.1)).Nodup
structure Good (F : IceField) : Prop where
  sz : Sized F
  con : isConsistent F = true

theorem cc_le {F : IceField} (h : Sized F) : F.columns * F.rows ≤ 25 :=
  Nat.le_trans (Nat.mul_le_mul h.c5 h.r5) (by decide)
theorem cc_pos {F : IceField} (h : Sized F) : 1 ≤ F.columns * F.rows :=
  Nat.le_trans (by decide : 1 ≤ 1 * 1) (Nat.mul_le_mul h.c1 h.r1)
theorem Sized.len {F : IceField} (h : Sized F) : F.measurements.length ≤ 25 := by
  have q := nd_le (F.columns * F.rows) (F.measurements.map (·.1)) h.nd (fun x hx => by
    obtain ⟨m, hm, e⟩ := List.mem_map.mp hx
    have := h.cells m hm
    omega)
  rw [List.length_map] at q
  have := cc_le h
  omega

/-! ### distances -/
theorem diff_self (a : Nat) : difference a a = 0 := by unfold difference; omega
theorem diff_comm (a b : Nat) : difference a b = difference b a := by unfold difference; omega
theorem diff_tri (a b c : Nat) : difference a c ≤ difference a b + difference b c := by unfold difference; omega
theorem diff_zero {a b : Nat} (h : difference a b = 0) : a = b := by unfold difference at h; omega
theorem diff_le {a b n : Nat} (ha : a ≤ n) (hb : b ≤ n) : difference a b ≤ n := by unfold difference; omega
theorem diff_int (a b : Nat) : (if (a : Int) - (b : Int) < 0 then -((a : Int) - (b : Int)) else (a : Int) - (b : Int)) = ((difference a b : Nat) : Int) := by
  unfold difference
  split <;> omega
theorem dist_self (F : IceField) (p : Nat) : cellDistance F p p = 0 := by
  unfold cellDistance
  rw [diff_self, diff_self]
theorem dist_comm (F : IceField) (p q : Nat) : cellDistance F p q = cellDistance F q p := by
  unfold cellDistance
  rw [diff_comm, diff_comm (p / F.columns)]
theorem dist_tri (F : IceField) (p q r : Nat) : cellDistance F p r ≤ cellDistance F p q + cellDistance F q r := by
  unfold cellDistance
  have h1 := diff_tri (p % F.columns) (q % F.columns) (r % F.columns)
  have h2 := diff_tri (p / F.columns) (q / F.columns) (r / F.columns)
  omega
theorem dist_pos {F : IceField} {p q : Nat} (h : p ≠ q) : 0 < cellDistance F p q := by
  rcases Nat.eq_zero_or_pos (cellDistance F p q) with e | e
  · exfalso
    unfold cellDistance at e
    have e1 : difference (p % F.columns) (q % F.columns) = 0 := by omega
    have e2 : difference (p / F.columns) (q / F.columns) = 0 := by omega
    have e1 := diff_zero e1
    have e2 := diff_zero e2
    have a := Nat.div_add_mod p F.columns
    have b := Nat.div_add_mod q F.columns
    rw [e1, e2] at a
    exact h (a.symm.trans b)
  · exact e
theorem dist_step (F : IceField) (k : Nat) (p q : Nat) : cellDistance { F with maxStep := k } p q = cellDistance F p q := rfl
theorem dist_with (F : IceField) (c t : Nat) (p q : Nat) : cellDistance (withMeasurement F c t) p q = cellDistance F p q := rfl
theorem dist_le {F : IceField} (h : Sized F) {p q : Nat} (hp : p < F.columns * F.rows) (hq : q < F.columns * F.rows) : cellDistance F p q ≤ 8 := by
  have a1 := Nat.mod_lt p (show 0 < F.columns from h.c1)
  have a2 := Nat.mod_lt q (show 0 < F.columns from h.c1)
  have b1 : p / F.columns < F.rows := Nat.div_lt_of_lt_mul hp
  have b2 : q / F.columns < F.rows := Nat.div_lt_of_lt_mul hq
  have := h.c5
  have := h.r5
  have d1 := diff_le (n := 4) (show p % F.columns ≤ 4 by omega) (show q % F.columns ≤ 4 by omega)
  have d2 := diff_le (n := 4) (show p / F.columns ≤ 4 by omega) (show q / F.columns ≤ 4 by omega)
  unfold cellDistance
  omega

/-! ### consistency -/
theorem con_iff {F : IceField} {s t : Nat × Nat} : areConsistent F s t = true ↔ difference s.2 t.2 ≤ F.maxStep * cellDistance F s.1 t.1 := by
  unfold areConsistent
  exact decide_eq_true_iff
theorem con_comm (F : IceField) (s t : Nat × Nat) : areConsistent F s t = areConsistent F t s := by
  unfold areConsistent
  rw [diff_comm, dist_comm]
theorem con_self (F : IceField) (s : Nat × Nat) : areConsistent F s s = true := by
  rw [con_iff, diff_self]
  exact Nat.zero_le _
theorem allcon_iff {F : IceField} : isConsistent F = true ↔ ∀ s ∈ F.measurements, ∀ t ∈ F.measurements, difference s.2 t.2 ≤ F.maxStep * cellDistance F s.1 t.1 := by
  unfold isConsistent
  simp only [List.all_eq_true, con_iff]
/-- the measurements of other cells -/
def others (ms : List (Nat × Nat)) (cell : Nat) : List (Nat × Nat) := ms.filter fun m => m.1 != cell
theorem mem_others {ms : List (Nat × Nat)} {cell : Nat} {m : Nat × Nat} : m ∈ others ms cell ↔ m ∈ ms ∧ m.1 ≠ cell := by
  unfold others
  simp
theorem others_len (ms : List (Nat × Nat)) (cell : Nat) : (others ms cell).length ≤ ms.length := List.length_filter_le _ _
theorem withM_ms (F : IceField) (c t : Nat) : (withMeasurement F c t).measurements = others F.measurements c ++ [(c, t)] := rfl
theorem mem_withM {F : IceField} {c t : Nat} {m : Nat × Nat} : m ∈ (withMeasurement F c t).measurements ↔ (m ∈ F.measurements ∧ m.1 ≠ c) ∨ m = (c, t) := by
  rw [withM_ms, List.mem_append, mem_others, List.mem_singleton]
theorem nd_others {ms : List (Nat × Nat)} (h : (ms.map (·.1)).Nodup) (c : Nat) : ((others ms c).map (·.1)).Nodup := by
  unfold others
  exact List.Sublist.nodup (List.Sublist.map _ List.filter_sublist) h
theorem nd_withM {F : IceField} (h : (F.measurements.map (·.1)).Nodup) (c t : Nat) : ((withMeasurement F c t).measurements.map (·.1)).Nodup := by
  rw [withM_ms, List.map_append]
  refine List.nodup_append.mpr ⟨nd_others h c, by simp, ?_⟩
  intro a ha b hb
  obtain ⟨m, hm, rfl⟩ := List.mem_map.mp ha
  have e : b = c := by simpa using hb
  rw [e]
  exact (mem_others.mp hm).2
theorem sized_withM {F : IceField} (h : Sized F) {c t : Nat} (hc : c < F.columns * F.rows) (ht : t ≤ 99) : Sized (withMeasurement F c t) := by
  refine ⟨h.c1, h.c5, h.r1, h.r5, h.s20, fun m hm => ?_, fun m hm => ?_, nd_withM h.nd c t⟩
  · rcases mem_withM.mp hm with q | q
    · exact h.cells m q.1
    · rw [q]; exact hc
  · rcases mem_withM.mp hm with q | q
    · exact h.thick m q.1
    · rw [q]; exact ht
theorem sized_step {F : IceField} (h : Sized F) {k : Nat} (hk : k ≤ 20) : Sized { F with maxStep := k } :=
  ⟨h.c1, h.c5, h.r1, h.r5, hk, h.cells, h.thick, h.nd⟩
theorem sized_others {F : IceField} (h : Sized F) (c : Nat) : Sized { F with measurements := others F.measurements c } :=
  ⟨h.c1, h.c5, h.r1, h.r5, h.s20, fun m hm => h.cells m (mem_others.mp hm).1, fun m hm => h.thick m (mem_others.mp hm).1, nd_others h.nd c⟩
theorem good_others {F : IceField} (h : Good F) (c : Nat) : Good { F with measurements := others F.measurements c } :=
  ⟨sized_others h.sz c, allcon_iff.mpr fun s hs t ht => allcon_iff.mp h.con s (mem_others.mp hs).1 t (mem_others.mp ht).1⟩
theorem good_fresh {c r s : Nat} (c1 : 1 ≤ c) (c5 : c ≤ 5) (r1 : 1 ≤ r) (r5 : r ≤ 5) (s20 : s ≤ 20) : Good ⟨c, r, s, []⟩ :=
  ⟨⟨c1, c5, r1, r5, s20, fun _ h => (by cases h), fun _ h => (by cases h), List.nodup_nil⟩, rfl⟩
/-- the program asks the new measurement against the others alone -/
theorem con_withM {F : IceField} (h : Good F) (c t : Nat) : isConsistent (withMeasurement F c t) = (others F.measurements c).all fun o => areConsistent F (c, t) o := by
  rw [Bool.eq_iff_iff, allcon_iff]
  simp only [List.all_eq_true, con_iff]
  have hc := allcon_iff.mp h.con
  constructor
  · intro q o ho
    have ho' := mem_others.mp ho
    exact q (c, t) (mem_withM.mpr (.inr rfl)) o (mem_withM.mpr (.inl ho'))
  · intro q a ha b hb
    rcases mem_withM.mp ha with ha | ha
    · rcases mem_withM.mp hb with hb | hb
      · exact hc a ha.1 b hb.1
      · subst hb
        have := q a (mem_others.mpr ha)
        rw [diff_comm, dist_comm]
        exact this
    · subst ha
      rcases mem_withM.mp hb with hb | hb
      · exact q b (mem_others.mpr hb)
      · subst hb
        rw [diff_self]
        exact Nat.zero_le _
theorem others_none {ms : List (Nat × Nat)} {c : Nat} (h : (ms.any fun m => m.1 == c) = false) : others ms c = ms := by
  unfold others
  apply List.filter_eq_self.mpr
  intro m hm
  have q := List.any_eq_false.mp h m hm
  simpa using q
theorem others_one : ∀ {ms : List (Nat × Nat)} {c : Nat}, (ms.map (·.1)).Nodup → (ms.any fun m => m.1 == c) = true → (others ms c).length = ms.length - 1
  | [], _, _, h => by simp at h
  | m :: r, c, nd, h => by
    have nd' : (m.1 :: r.map (·.1)).Nodup := nd
    obtain ⟨h1, h2⟩ := List.nodup_cons.mp nd'
    by_cases e : m.1 = c
    · have hn : (r.any fun m => m.1 == c) = false := by
        apply List.any_eq_false.mpr
        intro x hx q
        have : x.1 = c := by simpa using q
        exact h1 (List.mem_map.mpr ⟨x, hx, by rw [this, e]⟩)
      have := others_none hn
      unfold others at this ⊢
      rw [List.filter_cons, if_neg (by simp [e]), this]
      simp
    · have hr : (r.any fun m => m.1 == c) = true := by
        rw [List.any_cons] at h
        have e' : (m.1 == c) = false := by simpa using e
        rwa [e', Bool.false_or] at h
      have ih := others_one h2 hr
      have hp : 0 < r.length := by
        cases r with
        | nil => simp at hr
        | cons a b => simp
      unfold others at ih ⊢
      rw [List.filter_cons, if_pos (by simpa using e), List.length_cons, ih, List.length_cons]
      omega

/-! ### bounds -/
theorem fold_max {α : Type} (f : α → Nat) : ∀ (l : List α) (b : Nat), b ≤ l.foldl (fun b q => max b (f q)) b ∧ (∀ q ∈ l, f q ≤ l.foldl (fun b q => max b (f q)) b) ∧
    (l.foldl (fun b q => max b (f q)) b = b ∨ ∃ q ∈ l, l.foldl (fun b q => max b (f q)) b = f q)
  | [], b => ⟨Nat.le_refl _, fun _ h => (by cases h), .inl rfl⟩
  | a :: r, b => by
    obtain ⟨h1, h2, h3⟩ := fold_max f r (max b (f a))
    rw [List.foldl_cons]
    refine ⟨by omega, fun q hq => ?_, ?_⟩
    · rcases List.mem_cons.mp hq with e | e
      · subst e; omega
      · exact h2 q e
    · rcases h3 with h3 | ⟨q, hq, h3⟩
      · rcases Nat.le_total b (f a) with e | e
        · exact .inr ⟨a, List.mem_cons_self, by rw [h3]; omega⟩
        · exact .inl (by rw [h3]; omega)
      · exact .inr ⟨q, List.mem_cons_of_mem _ hq, h3⟩
theorem fold_min {α : Type} (f : α → Nat) : ∀ (l : List α) (b : Nat), l.foldl (fun b q => min b (f q)) b ≤ b ∧ (∀ q ∈ l, l.foldl (fun b q => min b (f q)) b ≤ f q) ∧
    (l.foldl (fun b q => min b (f q)) b = b ∨ ∃ q ∈ l, l.foldl (fun b q => min b (f q)) b = f q)
  | [], b => ⟨Nat.le_refl _, fun _ h => (by cases h), .inl rfl⟩
  | a :: r, b => by
    obtain ⟨h1, h2, h3⟩ := fold_min f r (min b (f a))
    rw [List.foldl_cons]
    refine ⟨by omega, fun q hq => ?_, ?_⟩
    · rcases List.mem_cons.mp hq with e | e
      · subst e; omega
      · exact h2 q e
    · rcases h3 with h3 | ⟨q, hq, h3⟩
      · rcases Nat.le_total b (f a) with e | e
        · exact .inl (by rw [h3]; omega)
        · exact .inr ⟨a, List.mem_cons_self, by rw [h3]; omega⟩
      · exact .inr ⟨q, List.mem_cons_of_mem _ hq, h3⟩
/-- what the program's max and min range over -/
def lows (F : IceField) (cell : Nat) : List Int := F.measurements.map fun q => (q.2 : Int) - (F.maxStep : Int) * (cellDistance F cell q.1 : Int)
def ups (F : IceField) (cell : Nat) : List Int := F.measurements.map fun q => (q.2 : Int) + (F.maxStep : Int) * (cellDistance F cell q.1 : Int)
theorem lower_spec (F : IceField) (cell : Nat) : (∀ q ∈ F.measurements, q.2 - F.maxStep * cellDistance F cell q.1 ≤ lowerBound F cell) ∧
    (lowerBound F cell = 0 ∨ ∃ q ∈ F.measurements, lowerBound F cell = q.2 - F.maxStep * cellDistance F cell q.1) := by
  have h := fold_max (fun q : Nat × Nat => q.2 - F.maxStep * cellDistance F cell q.1) F.measurements 0
  exact ⟨h.2.1, h.2.2⟩
theorem upper_spec (F : IceField) (cell : Nat) : upperBound F cell ≤ 99 ∧ (∀ q ∈ F.measurements, upperBound F cell ≤ q.2 + F.maxStep * cellDistance F cell q.1) ∧
    (upperBound F cell = 99 ∨ ∃ q ∈ F.measurements, upperBound F cell = q.2 + F.maxStep * cellDistance F cell q.1) :=
  fold_min (fun q : Nat × Nat => q.2 + F.maxStep * cellDistance F cell q.1) F.measurements 99
theorem lower_is {F : IceField} {cell : Nat} {m : Int} (hm : m ∈ 0 :: lows F cell) (hle : ∀ y ∈ 0 :: lows F cell, y ≤ m) : m = (lowerBound F cell : Int) := by
  obtain ⟨h1, h2⟩ := lower_spec F cell
  have m0 : (0 : Int) ≤ m := hle 0 List.mem_cons_self
  have a : m ≤ (lowerBound F cell : Int) := by
    rcases List.mem_cons.mp hm with e | e
    · omega
    · obtain ⟨q, hq, rfl⟩ := List.mem_map.mp e
      have := h1 q hq
      rw [← Int.natCast_mul]
      omega
  have b : (lowerBound F cell : Int) ≤ m := by
    rcases h2 with e | ⟨q, hq, e⟩
    · omega
    · have := hle _ (List.mem_cons_of_mem _ (List.mem_map.mpr ⟨q, hq, rfl⟩))
      rw [← Int.natCast_mul] at this
      omega
  omega
theorem upper_is {F : IceField} {cell : Nat} {m : Int} (hm : m ∈ 99 :: ups F cell) (hle : ∀ y ∈ 99 :: ups F cell, m ≤ y) : m = (upperBound F cell : Int) := by
  obtain ⟨h0, h1, h2⟩ := upper_spec F cell
  have m0 : m ≤ (99 : Int) := hle 99 List.mem_cons_self
  have a : (upperBound F cell : Int) ≤ m := by
    rcases List.mem_cons.mp hm with e | e
    · omega
    · obtain ⟨q, hq, rfl⟩ := List.mem_map.mp e
      have := h1 q hq
      rw [← Int.natCast_mul]
      omega
  have b : m ≤ (upperBound F cell : Int) := by
    rcases h2 with e | ⟨q, hq, e⟩
    · omega
    · have := hle _ (List.mem_cons_of_mem _ (List.mem_map.mpr ⟨q, hq, rfl⟩))
      rw [← Int.natCast_mul] at this
      omega
  omega
theorem lower_le {F : IceField} (h : Sized F) (cell : Nat) : lowerBound F cell ≤ 99 := by
  rcases (lower_spec F cell).2 with e | ⟨q, hq, e⟩
  · omega
  · have := h.thick q hq
    omega
theorem upper_le (F : IceField) (cell : Nat) : upperBound F cell ≤ 99 := (upper_spec F cell).1
theorem low_up {F : IceField} (h : Good F) (cell : Nat) : lowerBound F cell ≤ upperBound F cell := by
  have hl := lower_le h.sz cell
  rcases (upper_spec F cell).2.2 with e | ⟨q, hq, e⟩
  · omega
  · rcases (lower_spec F cell).2 with e2 | ⟨p, hp, e2⟩
    · omega
    · have c := allcon_iff.mp h.con p hp q hq
      have t := dist_tri F p.1 cell q.1
      rw [dist_comm F p.1 cell] at t
      have m := Nat.mul_le_mul_left F.maxStep t
      rw [Nat.mul_add] at m
      unfold difference at c
      omega
theorem low_zero_step {F : IceField} (hs : F.measurements = []) (cell : Nat) : lowerBound F cell = 0 := by
  rcases (lower_spec F cell).2 with e | ⟨q, hq, e⟩
  · exact e
  · rw [hs] at hq
    cases hq
/-- what lies within the bounds is consistent with all others -/
theorem within_con {F : IceField} (h : Good F) {cell t : Nat} (h1 : lowerBound F cell ≤ t) (h2 : t ≤ upperBound F cell) : isConsistent (withMeasurement F cell t) = true := by
  rw [con_withM h]
  simp only [List.all_eq_true, con_iff]
  intro o ho
  have ho := (mem_others.mp ho).1
  have a := (lower_spec F cell).1 o ho
  have b := (upper_spec F cell).2.1 o ho
  show difference t o.2 ≤ F.maxStep * cellDistance F cell o.1
  unfold difference
  omega
theorem good_withM {F : IceField} (h : Good F) {c t : Nat} (hc : c < F.columns * F.rows) (ht : t ≤ 99) (hk : isConsistent (withMeasurement F c t) = true) : Good (withMeasurement F c t) :=
  ⟨sized_withM h.sz hc ht, hk⟩
theorem possible_is {F : IceField} (h : Good F) (cell t : Nat) :
    (isConsistent (withMeasurement F cell t) && decide (lowerBound F cell ≤ t ∧ t ≤ upperBound F cell)) = decide (lowerBound F cell ≤ t ∧ t ≤ upperBound F cell) := by
  by_cases q : lowerBound F cell ≤ t ∧ t ≤ upperBound F cell
  · rw [within_con h q.1 q.2, Bool.true_and]
  · rw [decide_eq_false q, Bool.and_false]

/-! ### uncertainty -/
/-- as the program has it: whole numbers -/
def unc (F : IceField) (cell : Nat) : Int := (upperBound F cell : Int) - (lowerBound F cell : Int)
theorem unc_is {F : IceField} (h : Good F) (cell : Nat) : unc F cell = (uncertainty F cell : Int) := by
  have := low_up h cell
  unfold unc uncertainty
  omega
def tot (F : IceField) : Int := ((List.range (cellCount F)).map fun c => unc F c).sum
theorem sum_is (f : Nat → Nat) (g : Nat → Int) (h : ∀ c, g c = (f c : Int)) : ∀ (l : List Nat) (a : Nat), (((l.map f).foldl (fun (a b : Nat) => a + b) a : Nat) : Int) = (a : Int) + (l.map g).sum
  | [], a => by simp
  | x :: r, a => by
    rw [List.map_cons, List.foldl_cons, sum_is f g h r (a + f x), List.map_cons, List.sum_cons, h x]
    omega
theorem tot_is {F : IceField} (h : Good F) : tot F = (totalUncertainty F : Int) := by
  unfold tot totalUncertainty Km563.sum
  rw [sum_is (fun c => uncertainty F c) (fun c => unc F c) (fun c => unc_is h c) (List.range (cellCount F)) 0]
  simp
theorem most_aux (u : Nat → Nat) : ∀ n, (∀ c, c < n → u c ≤ u ((List.range n).foldl (fun best cell => if u best < u cell then cell else best) 0)) ∧
    (∀ i, i < (List.range n).foldl (fun best cell => if u best < u cell then cell else best) 0 → u i < u ((List.range n).foldl (fun best cell => if u best < u cell then cell else best) 0)) ∧
    (0 < n → (List.range n).foldl (fun best cell => if u best < u cell then cell else best) 0 < n)
  | 0 => ⟨fun _ h => absurd h (Nat.not_lt_zero _), fun _ h => absurd h (Nat.not_lt_zero _), fun h => h⟩
  | n + 1 => by
    obtain ⟨h1, h2, h3⟩ := most_aux u n
    rw [List.range_succ, List.foldl_append]
    generalize hb : (List.range n).foldl (fun best cell => if u best < u cell then cell else best) 0 = b at h1 h2 h3 ⊢
    show (∀ c, c < n + 1 → u c ≤ u (if u b < u n then n else b)) ∧ (∀ i, i < (if u b < u n then n else b) → u i < u (if u b < u n then n else b)) ∧ (0 < n + 1 → (if u b < u n then n else b) < n + 1)
    by_cases q : u b < u n
    · rw [if_pos q]
      refine ⟨fun c hc => ?_, fun i hi => ?_, fun _ => Nat.lt_succ_self _⟩
      · rcases Nat.lt_or_ge c n with e | e
        · have := h1 c e; omega
        · have : c = n := by omega
          subst this; exact Nat.le_refl _
      · have := h1 i hi; omega
    · rw [if_neg q]
      refine ⟨fun c hc => ?_, h2, fun _ => ?_⟩
      · rcases Nat.lt_or_ge c n with e | e
        · exact h1 c e
        · have : c = n := by omega
          subst this; omega
      · rcases Nat.eq_zero_or_pos n with e | e
        · subst e
          have : b = 0 := hb.symm
          omega
        · have := h3 e; omega
theorem most_is (F : IceField) : (∀ c, c < cellCount F → uncertainty F c ≤ uncertainty F (mostUncertainCell F)) ∧ (∀ i, i < mostUncertainCell F → uncertainty F i < uncertainty F (mostUncertainCell F)) ∧
    (0 < cellCount F → mostUncertainCell F < cellCount F) := most_aux (uncertainty F) (cellCount F)

/-! ### the smallest step -/
def stepOf (F : IceField) (a b : Nat × Nat) : Nat := (difference a.2 b.2 + cellDistance F a.1 b.1 - 1) / cellDistance F a.1 b.1
def small (F : IceField) : Nat := F.measurements.foldl (fun f a => (others F.measurements a.1).foldl (fun f b => max f (stepOf F a b)) f) 0
theorem ceil_le {x d k : Nat} (hd : 0 < d) : (x + d - 1) / d ≤ k ↔ x ≤ k * d := by
  rw [← Nat.lt_succ_iff, Nat.div_lt_iff_lt_mul hd, Nat.succ_mul]
  omega
theorem small_in (F : IceField) (a : Nat × Nat) (f k : Nat) : (others F.measurements a.1).foldl (fun f b => max f (stepOf F a b)) f ≤ k ↔ f ≤ k ∧ ∀ b ∈ F.measurements, a.1 ≠ b.1 → difference a.2 b.2 ≤ k * cellDistance F a.1 b.1 := by
  have h := fold_max (fun b => stepOf F a b) (others F.measurements a.1) f
  constructor
  · intro q
    refine ⟨Nat.le_trans h.1 q, fun b hb ne => ?_⟩
    have := Nat.le_trans (h.2.1 b (mem_others.mpr ⟨hb, fun e => ne e.symm⟩)) q
    exact (ceil_le (dist_pos ne)).mp this
  · rintro ⟨q1, q2⟩
    rcases h.2.2 with e | ⟨b, hb, e⟩
    · rw [e]; exact q1
    · rw [e]
      have hb := mem_others.mp hb
      exact (ceil_le (dist_pos fun z => hb.2 z.symm)).mpr (q2 b hb.1 fun z => hb.2 z.symm)
theorem small_out (F : IceField) (k : Nat) : ∀ (l : List (Nat × Nat)) (f : Nat), l.foldl (fun f a => (others F.measurements a.1).foldl (fun f b => max f (stepOf F a b)) f) f ≤ k ↔
    f ≤ k ∧ ∀ a ∈ l, ∀ b ∈ F.measurements, a.1 ≠ b.1 → difference a.2 b.2 ≤ k * cellDistance F a.1 b.1
  | [], f => by simp
  | a :: r, f => by
    rw [List.foldl_cons, small_out F k r, small_in]
    constructor
    · rintro ⟨⟨h1, h2⟩, h3⟩
      refine ⟨h1, fun x hx => ?_⟩
      rcases List.mem_cons.mp hx with e | e
      · subst e; exact h2
      · exact h3 x e
    · rintro ⟨h1, h2⟩
      exact ⟨⟨h1, h2 a List.mem_cons_self⟩, fun x hx => h2 x (List.mem_cons_of_mem _ hx)⟩
theorem nd_inj : ∀ {l : List (Nat × Nat)}, (l.map (·.1)).Nodup → ∀ {a b : Nat × Nat}, a ∈ l → b ∈ l → a.1 = b.1 → a = b
  | [], _, _, _, h, _, _ => by cases h
  | x :: r, nd, a, b, ha, hb, e => by
    have nd' : (x.1 :: r.map (·.1)).Nodup := nd
    obtain ⟨h1, h2⟩ := List.nodup_cons.mp nd'
    rcases List.mem_cons.mp ha with p | p
    · rcases List.mem_cons.mp hb with q | q
      · rw [p, q]
      · exact absurd (List.mem_map.mpr ⟨b, q, by rw [← e, p]⟩) h1
    · rcases List.mem_cons.mp hb with q | q
      · exact absurd (List.mem_map.mpr ⟨a, p, by rw [e, q]⟩) h1
      · exact nd_inj h2 p q e
theorem small_le {F : IceField} (h : Sized F) (k : Nat) : small F ≤ k ↔ isConsistent { F with maxStep := k } = true := by
  rw [allcon_iff]
  unfold small
  rw [small_out F k F.measurements 0]
  constructor
  · rintro ⟨_, q⟩ a ha b hb
    by_cases e : a.1 = b.1
    · have := nd_inj h.nd ha hb e
      subst this
      rw [diff_self]
      exact Nat.zero_le _
    · exact q a ha b hb e
  · intro q
    exact ⟨Nat.zero_le _, fun a ha b hb _ => q a ha b hb⟩
theorem small_is {F : IceField} (h : Good F) : smallestConsistentStep F = some (small F) := by
  have hs : small F ≤ F.maxStep := (small_le h.sz F.maxStep).mpr h.con
  have h20 := h.sz.s20
  unfold smallestConsistentStep
  rw [List.find?_range_eq_some]
  refine ⟨(small_le h.sz _).mp (Nat.le_refl _), List.mem_range.mpr (by omega), fun j hj => ?_⟩
  have : ¬ isConsistent { F with maxStep := j } = true := fun q => by
    have := (small_le h.sz j).mpr q
    omega
  simpa using this
/-! ### the worst total -/
theorem worst_is (f : Nat → Nat) (n : Nat) {m : Int} (hm : m ∈ (List.range n).map fun i => (f i : Int)) (hle : ∀ y ∈ (List.range n).map fun i => (f i : Int), y ≤ m) :
    m = (((List.range n).foldl (fun worst i => max worst (f i)) 0 : Nat) : Int) := by
  obtain ⟨h1, h2, h3⟩ := fold_max f (List.range n) 0
  obtain ⟨i, hi, rfl⟩ := List.mem_map.mp hm
  have a := h2 i hi
  have b : (((List.range n).foldl (fun worst i => max worst (f i)) 0 : Nat) : Int) ≤ (f i : Int) := by
    rcases h3 with e | ⟨j, hj, e⟩
    · rw [e]; omega
    · rw [e]
      exact hle _ (List.mem_map.mpr ⟨j, hj, rfl⟩)
  omega
/-! ### the greatest required thickness -/
theorem rev_find (p : Nat → Bool) : ∀ (n m : Nat), m < n → p m = true → (∀ y, y < n → p y = true → y ≤ m) → (List.range n).reverse.find? p = some m
  | 0, m, h, _, _ => absurd h (Nat.not_lt_zero _)
  | n + 1, m, h, hp, hle => by
    rw [List.range_succ, List.reverse_append]
    show (n :: (List.range n).reverse).find? p = some m
    by_cases q : p n = true
    · have := hle n (Nat.lt_succ_self _) q
      have e : m = n := by omega
      rw [List.find?_cons_of_pos q, e]
    · rw [List.find?_cons_of_neg q]
      have : m ≠ n := fun e => q (e ▸ hp)
      exact rev_find p n m (by omega) hp fun y hy => hle y (by omega)
end IceM
/-! Plain law, part 2: neighbours, the search by rounds, the route. No program in sight. -/
namespace IceM
open Km563

/-! ### neighbours -/
theorem div_pos_iff {n c : Nat} (hc : 0 < c) : 0 < n / c ↔ c ≤ n := by
  rw [Nat.div_pos_iff]
  exact ⟨fun h => h.2, fun h => ⟨hc, h⟩⟩
theorem row_lt {F : IceField} {n : Nat} (hn : n < F.columns * F.rows) : n / F.columns < F.rows := Nat.div_lt_of_lt_mul hn
theorem below_iff {F : IceField} (h : Sized F) {n : Nat} : n / F.columns + 1 < F.rows ↔ n + F.columns < cellCount F := by
  have hc : 0 < F.columns := h.c1
  have e : (n + F.columns) / F.columns = n / F.columns + 1 := Nat.add_div_right n hc
  rw [← e]
  unfold cellCount
  rw [Nat.div_lt_iff_lt_mul hc, Nat.mul_comm]
/-- the neighbours as the program's four tests give them -/
theorem nb_is {F : IceField} (h : Sized F) (n : Nat) : neighbours F n =
    (if 0 < n / F.columns then [n - F.columns] else []) ++ ((if 0 < n % F.columns then [n - 1] else []) ++ ((if n % F.columns + 1 < F.columns then [n + 1] else []) ++ (if n / F.columns + 1 < F.rows then [n + F.columns] else []))) := by
  have hc : 0 < F.columns := h.c1
  have hm := Nat.mod_lt n hc
  unfold neighbours
  have e1 : (if F.columns ≤ n then [n - F.columns] else []) = (if 0 < n / F.columns then [n - F.columns] else []) := by
    by_cases q : F.columns ≤ n
    · rw [if_pos q, if_pos ((div_pos_iff hc).mpr q)]
    · rw [if_neg q, if_neg fun z => q ((div_pos_iff hc).mp z)]
  have e2 : (if n % F.columns = 0 then [] else [n - 1]) = (if 0 < n % F.columns then [n - 1] else []) := by
    by_cases q : n % F.columns = 0
    · rw [if_pos q, if_neg (by omega)]
    · rw [if_neg q, if_pos (by omega)]
  have e3 : (if n % F.columns + 1 = F.columns then [] else [n + 1]) = (if n % F.columns + 1 < F.columns then [n + 1] else []) := by
    by_cases q : n % F.columns + 1 = F.columns
    · rw [if_pos q, if_neg (by omega)]
    · rw [if_neg q, if_pos (by omega)]
  have e4 : (if n + F.columns < cellCount F then [n + F.columns] else []) = (if n / F.columns + 1 < F.rows then [n + F.columns] else []) := by
    by_cases q : n + F.columns < cellCount F
    · rw [if_pos q, if_pos ((below_iff h).mpr q)]
    · rw [if_neg q, if_neg fun z => q ((below_iff h).mp z)]
  rw [e1, e2, e3, e4]
theorem nb_lt {F : IceField} (h : Sized F) {n m : Nat} (hn : n < cellCount F) (hm : m ∈ neighbours F n) : m < cellCount F := by
  have hc : 0 < F.columns := h.c1
  unfold neighbours at hm
  rw [List.mem_append, List.mem_append, List.mem_append] at hm
  rcases hm with q | q | q | q
  · split at q
    · have := List.mem_singleton.mp q; omega
    · cases q
  · split at q
    · cases q
    · have := List.mem_singleton.mp q; omega
  · split at q
    · cases q
    · rename_i e
      have := List.mem_singleton.mp q
      subst this
      have hr := row_lt (F := F) hn
      have hk := Nat.mul_le_mul_left F.columns (show n / F.columns + 1 ≤ F.rows from hr)
      rw [Nat.mul_add, Nat.mul_one] at hk
      have hd := Nat.div_add_mod n F.columns
      have hl := Nat.mod_lt n hc
      show n + 1 < F.columns * F.rows
      omega
  · split at q
    · have := List.mem_singleton.mp q; omega
    · cases q
theorem nb_len (F : IceField) (n : Nat) : (neighbours F n).length ≤ 4 := by
  unfold neighbours
  rw [List.length_append, List.length_append, List.length_append]
  have a : (if F.columns ≤ n then [n - F.columns] else []).length ≤ 1 := by split <;> simp
  have b : (if n % F.columns = 0 then [] else [n - 1]).length ≤ 1 := by split <;> simp
  have c : (if n % F.columns + 1 = F.columns then [] else [n + 1]).length ≤ 1 := by split <;> simp
  have d : (if n + F.columns < cellCount F then [n + F.columns] else []).length ≤ 1 := by split <;> simp
  omega
theorem nb_up {F : IceField} {n : Nat} (h : F.columns ≤ n) : n - F.columns ∈ neighbours F n := by
  unfold neighbours
  rw [List.mem_append]
  left
  rw [if_pos h]
  exact List.mem_singleton.mpr rfl
theorem nb_down {F : IceField} {n : Nat} (h : n + F.columns < cellCount F) : n + F.columns ∈ neighbours F n := by
  unfold neighbours
  rw [List.mem_append, List.mem_append, List.mem_append]
  right; right; right
  rw [if_pos h]
  exact List.mem_singleton.mpr rfl
theorem nb_left {F : IceField} {n : Nat} (h : n % F.columns ≠ 0) : n - 1 ∈ neighbours F n := by
  unfold neighbours
  rw [List.mem_append, List.mem_append, List.mem_append]
  right; left
  rw [if_neg h]
  exact List.mem_singleton.mpr rfl
theorem nb_right {F : IceField} {n : Nat} (h : n % F.columns + 1 ≠ F.columns) : n + 1 ∈ neighbours F n := by
  unfold neighbours
  rw [List.mem_append, List.mem_append, List.mem_append]
  right; right; left
  rw [if_neg h]
  exact List.mem_singleton.mpr rfl

/-! ### the search by rounds -/
abbrev Tb := Nat → Option Nat
def near (F : IceField) (t : Tb) (n : Nat) : Bool := (neighbours F n).any fun m => (t m).isSome
def b0 (al : List Nat) (o : Nat) : Tb := fun n => if n = o ∧ o ∈ al then some 0 else none
def bstep (F : IceField) (al : List Nat) (k : Nat) (t : Tb) : Tb := fun n => if (t n).isSome = true then t n else if n ∈ al ∧ near F t n = true then some k else none
def bfs (F : IceField) (al : List Nat) (o : Nat) : Nat → Tb
  | 0 => b0 al o
  | k + 1 => bstep F al (k + 1) (bfs F al o k)
section
variable {F : IceField} {al : List Nat} {o : Nat}
theorem bfs_succ (k n : Nat) : bfs F al o (k + 1) n = if (bfs F al o k n).isSome = true then bfs F al o k n else if n ∈ al ∧ near F (bfs F al o k) n = true then some (k + 1) else none := rfl
theorem bfs_keep {k n d : Nat} (h : bfs F al o k n = some d) : bfs F al o (k + 1) n = some d := by
  rw [bfs_succ, if_pos (by rw [h]; rfl), h]
theorem bfs_more {k j n d : Nat} (h : bfs F al o k n = some d) (hj : k ≤ j) : bfs F al o j n = some d := by
  obtain ⟨i, rfl⟩ := Nat.exists_eq_add_of_le hj
  clear hj
  induction i with
  | zero => exact h
  | succ i ih => exact bfs_keep ih
theorem bfs_val : ∀ {k n d : Nat}, bfs F al o k n = some d → d ≤ k ∧ bfs F al o d n = some d
  | 0, n, d, h => by
    have h' : (if n = o ∧ o ∈ al then some 0 else none) = some d := h
    split at h'
    · rename_i q
      cases h'
      exact ⟨Nat.le_refl _, h⟩
    · cases h'
  | k + 1, n, d, h => by
    rw [bfs_succ] at h
    split at h
    · have := bfs_val h
      exact ⟨by omega, this.2⟩
    · rename_i q1
      split at h
      · rename_i q2
        cases h
        refine ⟨Nat.le_refl _, ?_⟩
        rw [bfs_succ, if_neg q1, if_pos q2]
      · cases h
theorem bfs_al : ∀ {k n d : Nat}, bfs F al o k n = some d → n ∈ al
  | 0, n, d, h => by
    have h' : (if n = o ∧ o ∈ al then some 0 else none) = some d := h
    split at h'
    · rename_i q
      rw [q.1]
      exact q.2
    · cases h'
  | k + 1, n, d, h => by
    rw [bfs_succ] at h
    split at h
    · exact bfs_al h
    · split at h
      · rename_i q
        exact q.1
      · cases h
/-- the neighbours that are told when a cell isn't yet were told in the last round -/
theorem nb_exact {k n m d : Nat} (h : bfs F al o k n = none) (hn : n ∈ al) (hm : m ∈ neighbours F n) (hd : bfs F al o k m = some d) : d = k := by
  obtain ⟨h1, h2⟩ := bfs_val hd
  rcases Nat.lt_or_ge d k with q | q
  · exfalso
    obtain ⟨j, rfl⟩ : ∃ j, k = j + 1 := ⟨k - 1, by omega⟩
    have hj : bfs F al o j m = some d := bfs_more h2 (by omega)
    rw [bfs_succ] at h
    split at h
    · rename_i q1
      rw [h] at q1
      cases q1
    · rw [if_pos ⟨hn, List.any_eq_true.mpr ⟨m, hm, by rw [hj]; rfl⟩⟩] at h
      cases h
  · omega
theorem none_of_succ {k n : Nat} (h : bfs F al o (k + 1) n = some (k + 1)) : bfs F al o k n = none := by
  cases e : bfs F al o k n with
  | none => rfl
  | some d =>
    exfalso
    have := bfs_keep e
    rw [h] at this
    have := (bfs_val e).1
    have : k + 1 = d := Option.some.inj (by assumption)
    omega
theorem bfs_prev {k n d : Nat} (h : bfs F al o k n = some (d + 1)) : ∃ m ∈ neighbours F n, bfs F al o k m = some d := by
  obtain ⟨h1, h2⟩ := bfs_val h
  have h3 := none_of_succ h2
  have hn := bfs_al h
  rw [bfs_succ, if_neg (by rw [h3]; simp)] at h2
  split at h2
  · rename_i q
    obtain ⟨m, hm, e⟩ := List.any_eq_true.mp q.2
    obtain ⟨x, hx⟩ := Option.isSome_iff_exists.mp e
    have := nb_exact h3 hn hm hx
    subst this
    exact ⟨m, hm, bfs_more hx (by omega)⟩
  · cases h2
theorem countP_lt {α : Type} {p q : α → Bool} : ∀ {l : List α}, (∀ x ∈ l, p x = true → q x = true) → (∃ x ∈ l, q x = true ∧ p x = false) → l.countP p < l.countP q
  | [], _, ⟨_, h, _⟩ => by cases h
  | a :: r, h, ⟨x, hx, hq, hp⟩ => by
    have mono : r.countP p ≤ r.countP q := List.countP_mono_left fun y hy => h y (List.mem_cons_of_mem _ hy)
    rw [List.countP_cons, List.countP_cons]
    rcases List.mem_cons.mp hx with e | e
    · subst e
      rw [hq, hp]
      simp
      omega
    · have ih := countP_lt (l := r) (fun y hy => h y (List.mem_cons_of_mem _ hy)) ⟨x, e, hq, hp⟩
      have := h a List.mem_cons_self
      by_cases pa : p a = true
      · rw [if_pos pa, if_pos (this pa)]
        omega
      · rw [if_neg pa]
        omega
theorem bfs_count (hal : ∀ x ∈ al, x < cellCount F) : ∀ {k n : Nat}, bfs F al o k n = some k → k + 1 ≤ (List.range (cellCount F)).countP fun x => (bfs F al o k x).isSome
  | 0, n, h => List.countP_pos_iff.mpr ⟨n, List.mem_range.mpr (hal n (bfs_al h)), by rw [h]; rfl⟩
  | k + 1, n, h => by
    have h3 := none_of_succ h
    obtain ⟨m, hm, e⟩ := bfs_prev h
    have e : bfs F al o k m = some k := (bfs_val e).2
    have ih := bfs_count hal e
    have := countP_lt (l := List.range (cellCount F)) (p := fun x => (bfs F al o k x).isSome) (q := fun x => (bfs F al o (k + 1) x).isSome) (fun x _ hx => by
      obtain ⟨d, hd⟩ := Option.isSome_iff_exists.mp hx
      show (bfs F al o (k + 1) x).isSome = true
      rw [bfs_keep hd]; rfl) ⟨n, List.mem_range.mpr (hal n (bfs_al h)), by show (bfs F al o (k + 1) n).isSome = true; rw [h]; rfl, by show (bfs F al o k n).isSome = false; rw [h3]; rfl⟩
    omega
/-- a value is below the number of the cells -/
theorem bfs_small (hal : ∀ x ∈ al, x < cellCount F) {k n d : Nat} (h : bfs F al o k n = some d) : d + 1 ≤ cellCount F := by
  have h2 := (bfs_val h).2
  have := bfs_count hal h2
  have := List.countP_le_length (p := fun x => (bfs F al o d x).isSome) (l := List.range (cellCount F))
  rw [List.length_range] at this
  omega
/-- the last round brings nothing new -/
theorem bfs_last (hal : ∀ x ∈ al, x < cellCount F) {j : Nat} (hj : cellCount F = j + 1) (n : Nat) : bfs F al o (cellCount F) n = bfs F al o j n := by
  rw [hj]
  cases e : bfs F al o j n with
  | some d => exact bfs_keep e
  | none =>
    cases e2 : bfs F al o (j + 1) n with
    | none => rfl
    | some d =>
      exfalso
      rw [bfs_succ, if_neg (by rw [e]; simp)] at e2
      have e3 := e2
      split at e2
      · rename_i q
        cases e2
        have : bfs F al o (j + 1) n = some (j + 1) := by
          rw [bfs_succ, if_neg (by rw [e]; simp)]
          exact e3
        have := bfs_small hal this
        omega
      · cases e2
end

/-! ### the specification's table -/
def AsTab (tb : List (Option Nat)) (t : Tb) : Prop := ∀ n, tb.getD n none = t n
theorem getD_range {β : Type} (f : Nat → Option β) (c n : Nat) : ((List.range c).map f).getD n none = if n < c then f n else none := by
  rw [List.getD_eq_getElem?_getD, List.getElem?_map]
  by_cases h : n < c
  · rw [List.getElem?_range h, if_pos h]
    rfl
  · rw [List.getElem?_eq_none (by rw [List.length_range]; omega), if_neg h]
    rfl
def safes (F : IceField) (req : Nat) : List Nat := (List.range (cellCount F)).filter fun c => isSafe F req c
theorem mem_safes {F : IceField} {req n : Nat} : n ∈ safes F req ↔ n < cellCount F ∧ isSafe F req n = true := by
  unfold safes
  rw [List.mem_filter, List.mem_range]
theorem safes_lt {F : IceField} {req : Nat} : ∀ x ∈ safes F req, x < cellCount F := fun _ h => (mem_safes.mp h).1
def mins (t : Tb) : Option Nat → Nat → Option Nat := fun best neighbour => match t neighbour with
  | none => best
  | some distance => match best with
    | none => some (distance + 1)
    | some other => some (min other (distance + 1))
theorem mins_some {t : Tb} {k : Nat} : ∀ {l : List Nat}, (∀ m ∈ l, ∀ d, t m = some d → d = k) → l.foldl (mins t) (some (k + 1)) = some (k + 1)
  | [], _ => rfl
  | m :: r, h => by
    rw [List.foldl_cons]
    have e : mins t (some (k + 1)) m = some (k + 1) := by
      unfold mins
      cases q : t m with
      | none => rfl
      | some d =>
        have := h m List.mem_cons_self d q
        subst this
        show some (min (d + 1) (d + 1)) = _
        rw [Nat.min_self]
    rw [e]
    exact mins_some fun m hm => h m (List.mem_cons_of_mem _ hm)
theorem mins_none {t : Tb} {k : Nat} : ∀ {l : List Nat}, (∀ m ∈ l, ∀ d, t m = some d → d = k) → l.foldl (mins t) none = if (l.any fun m => (t m).isSome) = true then some (k + 1) else none
  | [], _ => rfl
  | m :: r, h => by
    rw [List.foldl_cons, List.any_cons]
    cases q : t m with
    | none =>
      have e : mins t none m = none := by
        unfold mins
        rw [q]
      rw [e, mins_none fun m hm => h m (List.mem_cons_of_mem _ hm)]
      simp
    | some d =>
      have := h m List.mem_cons_self d q
      subst this
      have e : mins t none m = some (d + 1) := by
        unfold mins
        rw [q]
      rw [e, mins_some fun m hm => h m (List.mem_cons_of_mem _ hm)]
      simp
def ext1 (F : IceField) (req : Nat) (t : Tb) (cell : Nat) : Option Nat := match t cell with
  | some distance => some distance
  | none => if isSafe F req cell = false then none else (neighbours F cell).foldl (mins t) none
theorem extend_eq (F : IceField) (req : Nat) (tb : List (Option Nat)) : extendDistances F req tb = (List.range (cellCount F)).map (ext1 F req fun n => tb.getD n none) := rfl
theorem extend_is {F : IceField} {req o k : Nat} {tb : List (Option Nat)} (h : AsTab tb (bfs F (safes F req) o k)) : AsTab (extendDistances F req tb) (bfs F (safes F req) o (k + 1)) := by
  intro n
  have e : (fun n => tb.getD n none) = bfs F (safes F req) o k := funext h
  rw [extend_eq, getD_range, e]
  by_cases hn : n < cellCount F
  · rw [if_pos hn, bfs_succ]
    unfold ext1
    cases q : bfs F (safes F req) o k n with
    | some d => simp
    | none =>
      simp only [Option.isSome_none, Bool.false_eq_true, if_false]
      by_cases s : isSafe F req n = true
      · have hs : n ∈ safes F req := mem_safes.mpr ⟨hn, s⟩
        rw [if_neg (by rw [s]; simp), mins_none (k := k) fun m hm d hd => nb_exact q hs hm hd]
        unfold near
        by_cases z : ((neighbours F n).any fun m => (bfs F (safes F req) o k m).isSome) = true
        · rw [if_pos z, if_pos ⟨hs, z⟩]
        · rw [if_neg z, if_neg fun y => z y.2]
      · rw [if_pos (by simpa using s), if_neg fun y => s (mem_safes.mp y.1).2]
  · rw [if_neg hn]
    symm
    cases q : bfs F (safes F req) o (k + 1) n with
    | none => rfl
    | some d => exact absurd (safes_lt n (bfs_al q)) hn
theorem repeat_is {F : IceField} {req o : Nat} : ∀ {j k : Nat} {tb : List (Option Nat)}, AsTab tb (bfs F (safes F req) o k) → AsTab (extendRepeatedly F req j tb) (bfs F (safes F req) o (k + j))
  | 0, _, _, h => h
  | j + 1, k, tb, h => by
    have := repeat_is (j := j) (extend_is h)
    rw [show k + 1 + j = k + (j + 1) by omega] at this
    exact this
theorem dist_tab (F : IceField) (req o : Nat) : AsTab (safeDistances F req o) (bfs F (safes F req) o (cellCount F)) := by
  have h0 : AsTab ((List.range (cellCount F)).map fun cell => if cell = o ∧ isSafe F req cell = true then some 0 else none) (bfs F (safes F req) o 0) := by
    intro n
    rw [getD_range]
    show _ = if n = o ∧ o ∈ safes F req then some 0 else none
    by_cases hn : n < cellCount F
    · rw [if_pos hn]
      by_cases q : n = o ∧ isSafe F req n = true
      · rw [if_pos q, if_pos ⟨q.1, by rw [← q.1]; exact mem_safes.mpr ⟨hn, q.2⟩⟩]
      · rw [if_neg q, if_neg fun z => q ⟨z.1, by have := (mem_safes.mp z.2).2; rw [z.1]; exact this⟩]
    · rw [if_neg hn, if_neg fun z => hn (by have := (mem_safes.mp z.2).1; rw [z.1]; exact this)]
  have := repeat_is (j := cellCount F) h0
  rw [Nat.zero_add] at this
  exact this
/-- the table of the program: all rounds but the last -/
def tab (F : IceField) (req o : Nat) : Tb := bfs F (safes F req) o (cellCount F - 1)
theorem tab_is {F : IceField} (h : Sized F) (req o n : Nat) : (safeDistances F req o).getD n none = tab F req o n := by
  have hp : 1 ≤ cellCount F := cc_pos h
  rw [dist_tab F req o n]
  exact bfs_last safes_lt (show cellCount F = (cellCount F - 1) + 1 by omega) n
theorem tab_prev {F : IceField} {req o n d : Nat} (h : tab F req o n = some (d + 1)) : ∃ m ∈ neighbours F n, tab F req o m = some d := bfs_prev h
theorem tab_small {F : IceField} {req o n d : Nat} (h : tab F req o n = some d) : d + 1 ≤ cellCount F := bfs_small safes_lt h
theorem tab_safe {F : IceField} {req o n d : Nat} (h : tab F req o n = some d) : n ∈ safes F req := bfs_al h

/-! ### the route -/
def prv (F : IceField) (t : Tb) (n d : Nat) : Option Nat := (neighbours F n).find? fun m => t m == some d
theorem prv_some {F : IceField} {req o n d : Nat} (h : tab F req o n = some (d + 1)) : ∃ m, prv F (tab F req o) n d = some m ∧ m ∈ neighbours F n ∧ tab F req o m = some d := by
  obtain ⟨m, hm, e⟩ := tab_prev h
  cases q : prv F (tab F req o) n d with
  | none =>
    have := List.find?_eq_none.mp q m hm
    rw [e] at this
    simp at this
  | some x =>
    have hx := List.find?_some q
    exact ⟨x, rfl, List.mem_of_find?_eq_some q, by simpa using hx⟩
theorem trace_step {F : IceField} (h : Sized F) {req o n d m f : Nat} {r : List Nat} (hn : tab F req o n = some (d + 1)) (hm : prv F (tab F req o) n d = some m) :
    traceBack F (safeDistances F req o) (f + 1) n r = traceBack F (safeDistances F req o) f m (n :: r) := by
  have e : (fun neighbour => (safeDistances F req o).getD neighbour none == some d) = fun m => tab F req o m == some d := by
    funext x
    rw [tab_is h]
  rw [traceBack, tab_is h, hn]
  show (match (neighbours F n).find? (fun neighbour => (safeDistances F req o).getD neighbour none == some d) with
    | none => n :: r
    | some neighbour => traceBack F (safeDistances F req o) f neighbour (n :: r)) = _
  rw [e]
  unfold prv at hm
  rw [hm]
theorem trace_end {F : IceField} (h : Sized F) {req o n f : Nat} {r : List Nat} (hn : tab F req o n = some 0) : traceBack F (safeDistances F req o) f n r = n :: r := by
  cases f with
  | zero => rfl
  | succ f => rw [traceBack, tab_is h, hn]
theorem trace_len {F : IceField} (h : Sized F) {req o : Nat} : ∀ {d f n : Nat} {r : List Nat}, tab F req o n = some d → d ≤ f → (traceBack F (safeDistances F req o) f n r).length = d + 1 + r.length
  | 0, f, n, r, hn, _ => by
    rw [trace_end h hn, List.length_cons]
    omega
  | d + 1, f, n, r, hn, hf => by
    obtain ⟨m, hm, _, e⟩ := prv_some hn
    obtain ⟨f', rfl⟩ : ∃ f', f = f' + 1 := ⟨f - 1, by omega⟩
    rw [trace_step h hn hm, trace_len h e (by omega), List.length_cons]
    omega
def routeOf (F : IceField) (req o t : Nat) : List Nat := traceBack F (safeDistances F req o) (cellCount F) t []
theorem route_is {F : IceField} (h : Sized F) (req o t : Nat) : safeRoute F req o t = (tab F req o t).map fun _ => routeOf F req o t := by
  unfold safeRoute
  rw [tab_is h]
  cases tab F req o t <;> rfl
theorem route_len {F : IceField} (h : Sized F) {req o t d : Nat} (e : tab F req o t = some d) : (routeOf F req o t).length = d + 1 := by
  have := tab_small e
  exact trace_len h e (by omega)
theorem filter_head {α : Type} (p : α → Bool) : ∀ (l : List α), (l.filter p)[0]? = l.find? p
  | [] => rfl
  | a :: r => by
    by_cases q : p a = true
    · rw [List.filter_cons, if_pos q, List.find?_cons_of_pos q]
      rfl
    · rw [List.filter_cons, if_neg q, List.find?_cons_of_neg q, filter_head p r]

/-! ### every cell is reached where all are safe -/
theorem safe_zero (F : IceField) (c : Nat) : isSafe F 0 c = true := by
  unfold isSafe
  simp
theorem tab_closed {F : IceField} (h : Sized F) {req o n m : Nat} (hn : n ∈ safes F req) (hm : m ∈ neighbours F n) (q : (tab F req o m).isSome = true) : (tab F req o n).isSome = true := by
  obtain ⟨j, hj⟩ : ∃ j, cellCount F = j + 1 := ⟨cellCount F - 1, by have := cc_pos h; unfold cellCount; omega⟩
  have e : tab F req o n = bfs F (safes F req) o (cellCount F) n := by
    rw [← tab_is h, dist_tab]
  have em : tab F req o m = bfs F (safes F req) o j m := by
    unfold tab
    rw [hj]
    rfl
  rw [e, hj, bfs_succ]
  by_cases z : (bfs F (safes F req) o j n).isSome = true
  · rw [if_pos z]
    exact z
  · rw [if_neg z, if_pos ⟨hn, List.any_eq_true.mpr ⟨m, hm, by rw [← em]; exact q⟩⟩]
    rfl
theorem zero_reached {F : IceField} (h : Sized F) {o : Nat} : ∀ (n : Nat), n < cellCount F → (tab F 0 o n).isSome = true → (tab F 0 o 0).isSome = true := by
  intro n
  induction n using Nat.strongRecOn with
  | _ n ih =>
    intro hn q
    have hc : 0 < F.columns := h.c1
    by_cases z : n = 0
    · subst z; exact q
    · by_cases hcn : F.columns ≤ n
      · have hk : n - F.columns < cellCount F := by omega
        refine ih (n - F.columns) (by omega) hk (tab_closed h (mem_safes.mpr ⟨hk, safe_zero F _⟩) ?_ q)
        have := nb_down (F := F) (n := n - F.columns) (by rw [Nat.sub_add_cancel hcn]; exact hn)
        rw [Nat.sub_add_cancel hcn] at this
        exact this
      · have hk : n - 1 < cellCount F := by omega
        refine ih (n - 1) (by omega) hk (tab_closed h (mem_safes.mpr ⟨hk, safe_zero F _⟩) ?_ q)
        have e : n - 1 + 1 = n := by omega
        have := nb_right (F := F) (n := n - 1) (by rw [Nat.mod_eq_of_lt (by omega)]; omega)
        rw [e] at this
        exact this
theorem all_reached {F : IceField} (h : Sized F) {o : Nat} (z : (tab F 0 o 0).isSome = true) : ∀ (n : Nat), n < cellCount F → (tab F 0 o n).isSome = true := by
  intro n
  induction n using Nat.strongRecOn with
  | _ n ih =>
    intro hn
    have hc : 0 < F.columns := h.c1
    by_cases z0 : n = 0
    · subst z0; exact z
    · by_cases hcn : F.columns ≤ n
      · exact tab_closed h (mem_safes.mpr ⟨hn, safe_zero F _⟩) (nb_up hcn) (ih (n - F.columns) (by omega) (by omega))
      · exact tab_closed h (mem_safes.mpr ⟨hn, safe_zero F _⟩) (nb_left (by rw [Nat.mod_eq_of_lt (by omega)]; exact z0)) (ih (n - 1) (by omega) (by omega))
theorem reached {F : IceField} (h : Sized F) {o t : Nat} (ho : o < cellCount F) (ht : t < cellCount F) : (tab F 0 o t).isSome = true := by
  have h0 : bfs F (safes F 0) o 0 o = some 0 := by
    show (if o = o ∧ o ∈ safes F 0 then some 0 else none) = some 0
    rw [if_pos ⟨rfl, mem_safes.mpr ⟨ho, safe_zero F _⟩⟩]
  have : tab F 0 o o = some 0 := bfs_more h0 (Nat.zero_le _)
  exact all_reached h (zero_reached h o ho (by rw [this]; rfl)) t ht
theorem max_safe_is {F : IceField} (h : Sized F) {o t m : Nat} (hm : m < 100) (hp : (tab F m o t).isSome = true) (hle : ∀ y, y < 100 → (tab F y o t).isSome = true → y ≤ m) : maxSafeThickness F o t = m := by
  unfold maxSafeThickness
  have e : (fun required => ((safeDistances F required o).getD t none).isSome) = fun required => (tab F required o t).isSome := by
    funext r
    rw [tab_is h]
  have q := rev_find (fun required => (tab F required o t).isSome) 100 m hm hp hle
  rw [e]
  show ((List.range 100).reverse.find? fun required => (tab F required o t).isSome).getD 0 = m
  rw [q]
  rfl
end IceM
/-! Plain law, part 3: one call of the specification, case by case. No program in sight. -/
namespace IceM
open Km563
section
variable {F : IceField}
theorem st_set_out {x : Nat} (h : 20 < x) : step (some F) (.setMaxStep x) = (some F, error (-22)) := by
  show (if 20 < x then _ else _) = _
  rw [if_pos h]
theorem st_set_no {x : Nat} (h : ¬ 20 < x) (c : isConsistent { F with maxStep := x } = false) : step (some F) (.setMaxStep x) = (some F, error (-33)) := by
  show (if 20 < x then _ else if isConsistent { F with maxStep := x } = false then _ else _) = _
  rw [if_neg h, if_pos c]
theorem st_set_ok {x : Nat} (h : ¬ 20 < x) (c : isConsistent { F with maxStep := x } = true) : step (some F) (.setMaxStep x) = (some { F with maxStep := x }, number (F.maxStep : Nat)) := by
  show (if 20 < x then _ else if isConsistent { F with maxStep := x } = false then _ else _) = _
  rw [if_neg h, if_neg (by rw [c]; simp)]
/-- what measure_error gives -/
def merr (F : IceField) (n t : Nat) : Int := if cellCount F ≤ n then -2 else if 99 < t then -22 else if isConsistent (withMeasurement F n t) = false then -33 else 0
theorem merr_zero {n t : Nat} (h : merr F n t = 0) : n < cellCount F ∧ t ≤ 99 ∧ isConsistent (withMeasurement F n t) = true := by
  unfold merr at h
  split at h
  · exact absurd h (by decide)
  · split at h
    · exact absurd h (by decide)
    · split at h
      · exact absurd h (by decide)
      · rename_i a b c
        exact ⟨by omega, by omega, by simpa using c⟩
theorem st_measure_no {n t : Nat} (h : merr F n t ≠ 0) : step (some F) (.measure n t) = (some F, error (merr F n t)) := by
  show (if cellCount F ≤ n then _ else if 99 < t then _ else if isConsistent (withMeasurement F n t) = false then _ else _) = _
  unfold merr at h ⊢
  by_cases a : cellCount F ≤ n
  · rw [if_pos a, if_pos a]
  · rw [if_neg a, if_neg a]
    by_cases b : 99 < t
    · rw [if_pos b, if_pos b]
    · rw [if_neg b, if_neg b]
      by_cases c : isConsistent (withMeasurement F n t) = false
      · rw [if_pos c, if_pos c]
      · rw [if_neg a, if_neg b, if_neg c] at h
        exact absurd rfl h
theorem st_measure_ok {n t : Nat} (h : merr F n t = 0) : step (some F) (.measure n t) = (some (withMeasurement F n t), number ((withMeasurement F n t).measurements.length : Nat)) := by
  obtain ⟨a, b, c⟩ := merr_zero h
  show (if cellCount F ≤ n then _ else if 99 < t then _ else if isConsistent (withMeasurement F n t) = false then _ else _) = _
  rw [if_neg (by omega), if_neg (by omega), if_neg (by rw [c]; simp)]
theorem st_total_no {n t : Nat} (h : merr F n t ≠ 0) : (step (some F) (.totalUncertaintyWith n t)).2 = error (merr F n t) := by
  show (if cellCount F ≤ n then _ else if 99 < t then _ else if isConsistent (withMeasurement F n t) = false then _ else _) = _
  unfold merr at h ⊢
  by_cases a : cellCount F ≤ n
  · rw [if_pos a, if_pos a]
  · rw [if_neg a, if_neg a]
    by_cases b : 99 < t
    · rw [if_pos b, if_pos b]
    · rw [if_neg b, if_neg b]
      by_cases c : isConsistent (withMeasurement F n t) = false
      · rw [if_pos c, if_pos c]
      · rw [if_neg a, if_neg b, if_neg c] at h
        exact absurd rfl h
theorem st_total_ok {n t : Nat} (h : merr F n t = 0) : (step (some F) (.totalUncertaintyWith n t)).2 = number (totalUncertainty (withMeasurement F n t) : Nat) := by
  obtain ⟨a, b, c⟩ := merr_zero h
  show (if cellCount F ≤ n then _ else if 99 < t then _ else if isConsistent (withMeasurement F n t) = false then _ else _) = _
  rw [if_neg (by omega), if_neg (by omega), if_neg (by rw [c]; simp)]
theorem st_remove_no {n : Nat} (h : (F.measurements.any fun m => m.1 == n) = false) : step (some F) (.removeMeasurement n) = (some F, error (-2)) := by
  show (if (F.measurements.any fun m => m.1 == n) = false then _ else _) = _
  rw [if_pos h]
theorem st_remove_ok {n : Nat} (h : (F.measurements.any fun m => m.1 == n) = true) : step (some F) (.removeMeasurement n) = (some { F with measurements := others F.measurements n }, number (F.measurements.length - 1 : Nat)) := by
  show (if (F.measurements.any fun m => m.1 == n) = false then _ else _) = _
  rw [if_neg (by rw [h]; simp)]
  rfl
theorem st_possible_cell {n t : Nat} (h : cellCount F ≤ n) : (step (some F) (.isPossible n t)).2 = error (-2) := if_pos h
theorem st_possible_out {n t : Nat} (h : ¬ cellCount F ≤ n) (h2 : 99 < t) : (step (some F) (.isPossible n t)).2 = error (-22) := (if_neg h).trans (if_pos h2)
theorem st_possible_ok (g : Good F) {n t : Nat} (h : ¬ cellCount F ≤ n) (h2 : ¬ 99 < t) : (step (some F) (.isPossible n t)).2 = boolean (decide (Km563.lowerBound F n ≤ t ∧ t ≤ Km563.upperBound F n)) := by
  show (if cellCount F ≤ n then _ else if 99 < t then _ else boolean (isConsistent (withMeasurement F n t) && decide (Km563.lowerBound F n ≤ t ∧ t ≤ Km563.upperBound F n))) = _
  rw [if_neg h, if_neg h2, possible_is g]
/-- what status_of gives -/
def stat (F : IceField) (r n : Nat) : Int := if r ≤ Km563.lowerBound F n then 1 else if r ≤ Km563.upperBound F n then 2 else 0
theorem stat_safe (r n : Nat) : (stat F r n == 1) = isSafe F r n := by
  unfold stat isSafe
  by_cases a : r ≤ Km563.lowerBound F n
  · rw [if_pos a, decide_eq_true a]
    rfl
  · rw [if_neg a, decide_eq_false a]
    split <;> rfl
theorem stat_unc (r n : Nat) : (stat F r n == 2) = (!(isSafe F r n) && decide (r ≤ Km563.upperBound F n)) := by
  unfold stat isSafe
  by_cases a : r ≤ Km563.lowerBound F n
  · rw [if_pos a, decide_eq_true a]
    rfl
  · rw [if_neg a, decide_eq_false a]
    by_cases b : r ≤ Km563.upperBound F n
    · rw [if_pos b, decide_eq_true b]
      rfl
    · rw [if_neg b, decide_eq_false b]
      rfl
theorem st_check_cell {r n : Nat} (h : cellCount F ≤ n) : (step (some F) (.checkCell r n)).2 = error (-2) := if_pos h
theorem st_check_out {r n : Nat} (h : ¬ cellCount F ≤ n) (h2 : 99 < r) : (step (some F) (.checkCell r n)).2 = error (-22) := (if_neg h).trans (if_pos h2)
theorem st_check_ok {r n : Nat} (h : ¬ cellCount F ≤ n) (h2 : ¬ 99 < r) : (step (some F) (.checkCell r n)).2 = number (stat F r n) := by
  show (if cellCount F ≤ n then _ else if 99 < r then _ else number (if Km563.isSafe F r n then 1 else if Km563.upperBound F n < r then 0 else 2)) = _
  rw [if_neg h, if_neg h2]
  congr 1
  unfold stat isSafe
  by_cases a : r ≤ Km563.lowerBound F n
  · rw [decide_eq_true a, if_pos rfl, if_pos a]
  · rw [decide_eq_false a, if_neg Bool.false_ne_true, if_neg a]
    by_cases b : r ≤ Km563.upperBound F n
    · rw [if_neg (by omega), if_pos b]
    · rw [if_pos (by omega), if_neg b]
theorem filter_safe (r : Nat) : ((List.range (cellCount F)).filter fun c => stat F r c == 1) = safes F r := by
  unfold safes
  exact List.filter_congr fun c _ => stat_safe r c
theorem st_safe_out {r : Nat} (h : 99 < r) : (step (some F) (.safeCells r)).2 = error (-22) := if_pos h
theorem st_safe_ok {r : Nat} (h : ¬ 99 < r) : (step (some F) (.safeCells r)).2 = listResult ((List.range (cellCount F)).filter fun c => stat F r c == 1) := by
  rw [filter_safe]
  exact if_neg h
theorem st_unc_out {r : Nat} (h : 99 < r) : (step (some F) (.uncertainCells r)).2 = error (-22) := if_pos h
theorem st_unc_ok {r : Nat} (h : ¬ 99 < r) : (step (some F) (.uncertainCells r)).2 = listResult ((List.range (cellCount F)).filter fun c => stat F r c == 2) := by
  have e : ((List.range (cellCount F)).filter fun c => stat F r c == 2) = (List.range (cellCount F)).filter fun cell => !(Km563.isSafe F r cell) && decide (r ≤ Km563.upperBound F cell) := List.filter_congr fun c _ => stat_unc r c
  rw [e]
  exact if_neg h
theorem st_route_cell {r o t : Nat} (h : cellCount F ≤ o ∨ cellCount F ≤ t) : (step (some F) (.safeRoute r o t)).2 = error (-2) := if_pos h
theorem st_route_out {r o t : Nat} (h : ¬ (cellCount F ≤ o ∨ cellCount F ≤ t)) (h2 : 99 < r) : (step (some F) (.safeRoute r o t)).2 = error (-22) := (if_neg h).trans (if_pos h2)
theorem st_route_none (s : Sized F) {r o t : Nat} (h : ¬ (cellCount F ≤ o ∨ cellCount F ≤ t)) (h2 : ¬ 99 < r) (q : tab F r o t = none) : (step (some F) (.safeRoute r o t)).2 = error (-33) := by
  refine (if_neg h).trans ((if_neg h2).trans ?_)
  rw [route_is s, q]
  rfl
theorem st_route_some (s : Sized F) {r o t d : Nat} (h : ¬ (cellCount F ≤ o ∨ cellCount F ≤ t)) (h2 : ¬ 99 < r) (q : tab F r o t = some d) : (step (some F) (.safeRoute r o t)).2 = listResult (routeOf F r o t) := by
  refine (if_neg h).trans ((if_neg h2).trans ?_)
  rw [route_is s, q]
  rfl
theorem st_rlen_cell {r o t : Nat} (h : cellCount F ≤ o ∨ cellCount F ≤ t) : (step (some F) (.safeRouteLength r o t)).2 = error (-2) := if_pos h
theorem st_rlen_out {r o t : Nat} (h : ¬ (cellCount F ≤ o ∨ cellCount F ≤ t)) (h2 : 99 < r) : (step (some F) (.safeRouteLength r o t)).2 = error (-22) := (if_neg h).trans (if_pos h2)
theorem st_rlen_none (s : Sized F) {r o t : Nat} (h : ¬ (cellCount F ≤ o ∨ cellCount F ≤ t)) (h2 : ¬ 99 < r) (q : tab F r o t = none) : (step (some F) (.safeRouteLength r o t)).2 = error (-33) := by
  refine (if_neg h).trans ((if_neg h2).trans ?_)
  rw [tab_is s, q]
theorem st_rlen_some (s : Sized F) {r o t d : Nat} (h : ¬ (cellCount F ≤ o ∨ cellCount F ≤ t)) (h2 : ¬ 99 < r) (q : tab F r o t = some d) : (step (some F) (.safeRouteLength r o t)).2 = number (d : Nat) := by
  refine (if_neg h).trans ((if_neg h2).trans ?_)
  rw [tab_is s, q]
/-- the length is told by the route's answer -/
theorem rlen_is (s : Sized F) (r o t : Nat) : (0 < (step (some F) (.safeRoute r o t)).2.num → (step (some F) (.safeRouteLength r o t)).2 = number ((step (some F) (.safeRoute r o t)).2.num - 1)) ∧
    (¬ 0 < (step (some F) (.safeRoute r o t)).2.num → (step (some F) (.safeRouteLength r o t)).2 = (step (some F) (.safeRoute r o t)).2) := by
  by_cases h : cellCount F ≤ o ∨ cellCount F ≤ t
  · rw [st_route_cell h, st_rlen_cell h]
    exact ⟨fun z => absurd z (by decide), fun _ => rfl⟩
  · by_cases h2 : 99 < r
    · rw [st_route_out h h2, st_rlen_out h h2]
      exact ⟨fun z => absurd z (by decide), fun _ => rfl⟩
    · cases q : tab F r o t with
      | none =>
        rw [st_route_none s h h2 q, st_rlen_none s h h2 q]
        exact ⟨fun z => absurd z (by decide), fun _ => rfl⟩
      | some d =>
        rw [st_route_some s h h2 q, st_rlen_some s h h2 q]
        have e : (listResult (routeOf F r o t)).num = ((d + 1 : Nat) : Int) := by
          show ((routeOf F r o t).length : Int) = _
          rw [route_len s q]
        rw [e]
        refine ⟨fun _ => ?_, fun z => absurd (show (0 : Int) < ((d + 1 : Nat) : Int) by omega) z⟩
        congr 1
        omega
theorem st_max_cell {o t : Nat} (h : cellCount F ≤ o ∨ cellCount F ≤ t) : (step (some F) (.maxSafeThickness o t)).2 = error (-2) := if_pos h
theorem st_max_ok {o t : Nat} (h : ¬ (cellCount F ≤ o ∨ cellCount F ≤ t)) : (step (some F) (.maxSafeThickness o t)).2 = number (Km563.maxSafeThickness F o t : Nat) := if_neg h
theorem max_most {x : Int} (g : Good F) (hx : x ∈ (List.range (cellCount F)).map fun c => unc F c) (hle : ∀ y ∈ (List.range (cellCount F)).map fun c => unc F c, y ≤ x) : x = (Km563.uncertainty F (Km563.mostUncertainCell F) : Int) := by
  obtain ⟨m1, m2, m3⟩ := most_is F
  obtain ⟨c, hc, rfl⟩ := List.mem_map.mp hx
  have hc := List.mem_range.mp hc
  have a := m1 c hc
  have b := hle _ (List.mem_map.mpr ⟨_, List.mem_range.mpr (m3 (by omega)), rfl⟩)
  rw [unc_is g] at b ⊢
  rw [unc_is g] at b
  omega
theorem st_worst_cell {n : Nat} (h : cellCount F ≤ n) : (step (some F) (.worstTotalUncertainty n)).2 = error (-2) := if_pos h
theorem st_worst_meas {n : Nat} (h : ¬ cellCount F ≤ n) (h2 : (F.measurements.any fun m => m.1 == n) = true) : (step (some F) (.worstTotalUncertainty n)).2 = error (-17) := (if_neg h).trans (if_pos h2)
theorem st_worst_ok {n : Nat} (h : ¬ cellCount F ≤ n) (h2 : (F.measurements.any fun m => m.1 == n) = false) : (step (some F) (.worstTotalUncertainty n)).2 =
    number ((List.range (Km563.upperBound F n + 1 - Km563.lowerBound F n)).foldl (fun (worst i : Nat) => max worst (totalUncertainty (withMeasurement F n (Km563.lowerBound F n + i)))) 0 : Nat) :=
  (if_neg h).trans (if_neg (by rw [h2]; simp))
theorem st_small (g : Good F) : (step (some F) .smallestConsistentStep).2 = number (small F : Nat) := by
  show (match smallestConsistentStep F with
    | none => error (-33)
    | some maxStep => number (maxStep : Nat)) = _
  rw [small_is g]
theorem st_low_cell {n : Nat} (h : cellCount F ≤ n) : (step (some F) (.lowerBound n)).2 = error (-2) := if_pos h
theorem st_low_ok {n : Nat} (h : ¬ cellCount F ≤ n) : (step (some F) (.lowerBound n)).2 = number (Km563.lowerBound F n : Nat) := if_neg h
theorem st_up_cell {n : Nat} (h : cellCount F ≤ n) : (step (some F) (.upperBound n)).2 = error (-2) := if_pos h
theorem st_up_ok {n : Nat} (h : ¬ cellCount F ≤ n) : (step (some F) (.upperBound n)).2 = number (Km563.upperBound F n : Nat) := if_neg h
theorem st_un_cell {n : Nat} (h : cellCount F ≤ n) : (step (some F) (.uncertainty n)).2 = error (-2) := if_pos h
theorem st_un_ok {n : Nat} (h : ¬ cellCount F ≤ n) : (step (some F) (.uncertainty n)).2 = number (Km563.uncertainty F n : Nat) := if_neg h
end
end IceM
/-! Plain law, part 4: how the list of calls is read; states stay good. No program in sight. -/
namespace IceM
open Km563
def GoodS : State → Prop
  | none => True
  | some F => Good F
/-- a call by its number and its numbers -/
def dec (w : Nat) (l : List Nat) : Option Call := match w with
  | 0 => (match l with | [a, b, c] => some (.create a b c) | _ => none)
  | 1 => (match l with | [a] => some (.setMaxStep a) | _ => none)
  | 2 => (match l with | [a, b] => some (.measure a b) | _ => none)
  | 3 => (match l with | [a] => some (.removeMeasurement a) | _ => none)
  | 4 => (match l with | [] => some .listMeasurements | _ => none)
  | 5 => (match l with | [a] => some (.lowerBound a) | _ => none)
  | 6 => (match l with | [a] => some (.upperBound a) | _ => none)
  | 7 => (match l with | [] => some .lowerBounds | _ => none)
  | 8 => (match l with | [] => some .upperBounds | _ => none)
  | 9 => (match l with | [a, b] => some (.isPossible a b) | _ => none)
  | 10 => (match l with | [a] => some (.uncertainty a) | _ => none)
  | 11 => (match l with | [] => some .mostUncertainCell | _ => none)
  | 12 => (match l with | [a, b] => some (.checkCell a b) | _ => none)
  | 13 => (match l with | [a] => some (.safeCells a) | _ => none)
  | 14 => (match l with | [a] => some (.uncertainCells a) | _ => none)
  | 15 => (match l with | [a, b, c] => some (.safeRoute a b c) | _ => none)
  | 16 => (match l with | [a, b, c] => some (.safeRouteLength a b c) | _ => none)
  | 17 => (match l with | [a, b] => some (.maxSafeThickness a b) | _ => none)
  | 18 => (match l with | [a, b] => some (.totalUncertaintyWith a b) | _ => none)
  | 19 => (match l with | [a] => some (.worstTotalUncertainty a) | _ => none)
  | 20 => (match l with | [] => some .smallestConsistentStep | _ => none)
  | 21 => (match l with | [] => some .totalUncertainty | _ => none)
  | 22 => (match l with | [] => some .summary | _ => none)
  | _ => none
theorem as0 {f : Call} {l : List Nat} {c : Call} (h : (match l with | [] => some f | _ => none) = some c) : l = [] ∧ c = f := by
  match l, h with
  | [], h => exact ⟨rfl, (Option.some.inj h).symm⟩
theorem as1 {f : Nat → Call} {l : List Nat} {c : Call} (h : (match l with | [a] => some (f a) | _ => none) = some c) : ∃ a, l = [a] ∧ c = f a := by
  match l, h with
  | [a], h => exact ⟨a, rfl, (Option.some.inj h).symm⟩
theorem as2 {f : Nat → Nat → Call} {l : List Nat} {c : Call} (h : (match l with | [a, b] => some (f a b) | _ => none) = some c) : ∃ a b, l = [a, b] ∧ c = f a b := by
  match l, h with
  | [a, b], h => exact ⟨a, b, rfl, (Option.some.inj h).symm⟩
theorem as3 {f : Nat → Nat → Nat → Call} {l : List Nat} {c : Call} (h : (match l with | [a, b, d] => some (f a b d) | _ => none) = some c) : ∃ a b d, l = [a, b, d] ∧ c = f a b d := by
  match l, h with
  | [a, b, d], h => exact ⟨a, b, d, rfl, (Option.some.inj h).symm⟩
theorem dec_lt {w : Nat} {l : List Nat} {c : Call} (h : dec w l = some c) : w < 23 := by
  rcases Nat.lt_or_ge w 23 with q | q
  · exact q
  · obtain ⟨k, rfl⟩ : ∃ k, w = k + 23 := ⟨w - 23, by omega⟩
    cases h
/-- a good state stays good -/
theorem step_good {st : State} (h : GoodS st) (c : Call) : GoodS (step st c).1 := by
  match st, c, h with
  | st, .create a b d, h =>
    show GoodS (if a = 0 ∨ maxSize < a ∨ b = 0 ∨ maxSize < b ∨ 20 < d then (st, error (-22)) else (some ⟨a, b, d, []⟩, number 0)).1
    by_cases q : a = 0 ∨ maxSize < a ∨ b = 0 ∨ maxSize < b ∨ 20 < d
    · rw [if_pos q]; exact h
    · rw [if_neg q]
      simp only [maxSize, not_or] at q
      exact good_fresh (by omega) (by omega) (by omega) (by omega) (by omega)
  | none, .setMaxStep _, _ => exact trivial
  | none, .measure _ _, _ => exact trivial
  | none, .removeMeasurement _, _ => exact trivial
  | none, .listMeasurements, _ => exact trivial
  | none, .lowerBound _, _ => exact trivial
  | none, .upperBound _, _ => exact trivial
  | none, .lowerBounds, _ => exact trivial
  | none, .upperBounds, _ => exact trivial
  | none, .isPossible _ _, _ => exact trivial
  | none, .uncertainty _, _ => exact trivial
  | none, .mostUncertainCell, _ => exact trivial
  | none, .checkCell _ _, _ => exact trivial
  | none, .safeCells _, _ => exact trivial
  | none, .uncertainCells _, _ => exact trivial
  | none, .safeRoute _ _ _, _ => exact trivial
  | none, .safeRouteLength _ _ _, _ => exact trivial
  | none, .maxSafeThickness _ _, _ => exact trivial
  | none, .totalUncertaintyWith _ _, _ => exact trivial
  | none, .worstTotalUncertainty _, _ => exact trivial
  | none, .smallestConsistentStep, _ => exact trivial
  | none, .totalUncertainty, _ => exact trivial
  | none, .summary, _ => exact trivial
  | some F, .setMaxStep x, h =>
    by_cases q : 20 < x
    · rw [st_set_out q]; exact h
    · cases c : isConsistent { F with maxStep := x } with
      | false => rw [st_set_no q c]; exact h
      | true =>
        rw [st_set_ok q c]
        exact ⟨sized_step h.sz (by omega), c⟩
  | some F, .measure n t, h =>
    by_cases q : merr F n t = 0
    · rw [st_measure_ok q]
      obtain ⟨a, b, c⟩ := merr_zero q
      exact good_withM h a b c
    · rw [st_measure_no q]; exact h
  | some F, .removeMeasurement n, h =>
    cases q : (F.measurements.any fun m => m.1 == n) with
    | false => rw [st_remove_no q]; exact h
    | true => rw [st_remove_ok q]; exact good_others h n
  | some F, .listMeasurements, h => exact h
  | some F, .lowerBound _, h => exact h
  | some F, .upperBound _, h => exact h
  | some F, .lowerBounds, h => exact h
  | some F, .upperBounds, h => exact h
  | some F, .isPossible _ _, h => exact h
  | some F, .uncertainty _, h => exact h
  | some F, .mostUncertainCell, h => exact h
  | some F, .checkCell _ _, h => exact h
  | some F, .safeCells _, h => exact h
  | some F, .uncertainCells _, h => exact h
  | some F, .safeRoute _ _ _, h => exact h
  | some F, .safeRouteLength _ _ _, h => exact h
  | some F, .maxSafeThickness _ _, h => exact h
  | some F, .totalUncertaintyWith _ _, h => exact h
  | some F, .worstTotalUncertainty _, h => exact h
  | some F, .smallestConsistentStep, h => exact h
  | some F, .totalUncertainty, h => exact h
  | some F, .summary, h => exact h
/-- without an instance every call but create is refused -/
theorem step_none {w : Nat} {l : List Nat} {c : Call} (h : dec w l = some c) (hw : 1 ≤ w) : step none c = (none, error (-11)) := by
  have hl := dec_lt h
  have hh : 1 ≤ w ∧ w < 23 := ⟨hw, hl⟩
  clear hw hl
  match w, hh, h with
  | 0, hh, _ => exact absurd hh.1 (by decide)
  | 1, _, h => obtain ⟨a, rfl, rfl⟩ := as1 h; rfl
  | 2, _, h => obtain ⟨a, b, rfl, rfl⟩ := as2 h; rfl
  | 3, _, h => obtain ⟨a, rfl, rfl⟩ := as1 h; rfl
  | 4, _, h => obtain ⟨rfl, rfl⟩ := as0 h; rfl
  | 5, _, h => obtain ⟨a, rfl, rfl⟩ := as1 h; rfl
  | 6, _, h => obtain ⟨a, rfl, rfl⟩ := as1 h; rfl
  | 7, _, h => obtain ⟨rfl, rfl⟩ := as0 h; rfl
  | 8, _, h => obtain ⟨rfl, rfl⟩ := as0 h; rfl
  | 9, _, h => obtain ⟨a, b, rfl, rfl⟩ := as2 h; rfl
  | 10, _, h => obtain ⟨a, rfl, rfl⟩ := as1 h; rfl
  | 11, _, h => obtain ⟨rfl, rfl⟩ := as0 h; rfl
  | 12, _, h => obtain ⟨a, b, rfl, rfl⟩ := as2 h; rfl
  | 13, _, h => obtain ⟨a, rfl, rfl⟩ := as1 h; rfl
  | 14, _, h => obtain ⟨a, rfl, rfl⟩ := as1 h; rfl
  | 15, _, h => obtain ⟨a, b, d, rfl, rfl⟩ := as3 h; rfl
  | 16, _, h => obtain ⟨a, b, d, rfl, rfl⟩ := as3 h; rfl
  | 17, _, h => obtain ⟨a, b, rfl, rfl⟩ := as2 h; rfl
  | 18, _, h => obtain ⟨a, b, rfl, rfl⟩ := as2 h; rfl
  | 19, _, h => obtain ⟨a, rfl, rfl⟩ := as1 h; rfl
  | 20, _, h => obtain ⟨rfl, rfl⟩ := as0 h; rfl
  | 21, _, h => obtain ⟨rfl, rfl⟩ := as0 h; rfl
  | 22, _, h => obtain ⟨rfl, rfl⟩ := as0 h; rfl
/-- the calls from 4 on change nothing -/
theorem step_pure {F : IceField} {w : Nat} {l : List Nat} {c : Call} (h : dec w l = some c) (hw : 4 ≤ w) : (step (some F) c).1 = some F := by
  have hl := dec_lt h
  have hh : 4 ≤ w ∧ w < 23 := ⟨hw, hl⟩
  clear hw hl
  match w, hh, h with
  | 0, hh, _ => exact absurd hh.1 (by decide)
  | 1, hh, _ => exact absurd hh.1 (by decide)
  | 2, hh, _ => exact absurd hh.1 (by decide)
  | 3, hh, _ => exact absurd hh.1 (by decide)
  | 4, _, h => obtain ⟨rfl, rfl⟩ := as0 h; rfl
  | 5, _, h => obtain ⟨a, rfl, rfl⟩ := as1 h; rfl
  | 6, _, h => obtain ⟨a, rfl, rfl⟩ := as1 h; rfl
  | 7, _, h => obtain ⟨rfl, rfl⟩ := as0 h; rfl
  | 8, _, h => obtain ⟨rfl, rfl⟩ := as0 h; rfl
  | 9, _, h => obtain ⟨a, b, rfl, rfl⟩ := as2 h; rfl
  | 10, _, h => obtain ⟨a, rfl, rfl⟩ := as1 h; rfl
  | 11, _, h => obtain ⟨rfl, rfl⟩ := as0 h; rfl
  | 12, _, h => obtain ⟨a, b, rfl, rfl⟩ := as2 h; rfl
  | 13, _, h => obtain ⟨a, rfl, rfl⟩ := as1 h; rfl
  | 14, _, h => obtain ⟨a, rfl, rfl⟩ := as1 h; rfl
  | 15, _, h => obtain ⟨a, b, d, rfl, rfl⟩ := as3 h; rfl
  | 16, _, h => obtain ⟨a, b, d, rfl, rfl⟩ := as3 h; rfl
  | 17, _, h => obtain ⟨a, b, rfl, rfl⟩ := as2 h; rfl
  | 18, _, h => obtain ⟨a, b, rfl, rfl⟩ := as2 h; rfl
  | 19, _, h => obtain ⟨a, rfl, rfl⟩ := as1 h; rfl
  | 20, _, h => obtain ⟨rfl, rfl⟩ := as0 h; rfl
  | 21, _, h => obtain ⟨rfl, rfl⟩ := as0 h; rfl
  | 22, _, h => obtain ⟨rfl, rfl⟩ := as0 h; rfl
theorem st_create_no {st : State} {a b d : Nat} (h : a = 0 ∨ 5 < a ∨ b = 0 ∨ 5 < b ∨ 20 < d) : step st (.create a b d) = (st, error (-22)) := if_pos h
theorem st_create_ok {st : State} {a b d : Nat} (h : ¬ (a = 0 ∨ 5 < a ∨ b = 0 ∨ 5 < b ∨ 20 < d)) : step st (.create a b d) = (some ⟨a, b, d, []⟩, number 0) := if_neg h
/-! ### the list of calls -/
/-- how many numbers each call has -/
def NUM : List Nat := [3, 1, 2, 1, 0, 1, 1, 0, 0, 2, 1, 0, 2, 1, 1, 3, 3, 2, 2, 1, 0, 0, 0]
theorem whole_id (c : List (List Int)) : PyKm563.whole c = c := by
  unfold PyKm563.whole
  split <;> rfl
theorem map_whole (cs : List (List (List Int))) : cs.map PyKm563.whole = cs := by
  have : PyKm563.whole = id := funext whole_id
  rw [this, List.map_id]
theorem shape_nat {w : Nat} {n k : Nat} (hw : w < 23) (h : PyKm563.shape (w : Int) = some (n, k)) : k = 0 ∧ NUM[w]? = some n := by
  match w, hw, h with
  | 0, _, h => have h : some (3, 0) = some (n, k) := h; cases h; exact ⟨rfl, rfl⟩
  | 1, _, h => have h : some (1, 0) = some (n, k) := h; cases h; exact ⟨rfl, rfl⟩
  | 2, _, h => have h : some (2, 0) = some (n, k) := h; cases h; exact ⟨rfl, rfl⟩
  | 3, _, h => have h : some (1, 0) = some (n, k) := h; cases h; exact ⟨rfl, rfl⟩
  | 4, _, h => have h : some (0, 0) = some (n, k) := h; cases h; exact ⟨rfl, rfl⟩
  | 5, _, h => have h : some (1, 0) = some (n, k) := h; cases h; exact ⟨rfl, rfl⟩
  | 6, _, h => have h : some (1, 0) = some (n, k) := h; cases h; exact ⟨rfl, rfl⟩
  | 7, _, h => have h : some (0, 0) = some (n, k) := h; cases h; exact ⟨rfl, rfl⟩
  | 8, _, h => have h : some (0, 0) = some (n, k) := h; cases h; exact ⟨rfl, rfl⟩
  | 9, _, h => have h : some (2, 0) = some (n, k) := h; cases h; exact ⟨rfl, rfl⟩
  | 10, _, h => have h : some (1, 0) = some (n, k) := h; cases h; exact ⟨rfl, rfl⟩
  | 11, _, h => have h : some (0, 0) = some (n, k) := h; cases h; exact ⟨rfl, rfl⟩
  | 12, _, h => have h : some (2, 0) = some (n, k) := h; cases h; exact ⟨rfl, rfl⟩
  | 13, _, h => have h : some (1, 0) = some (n, k) := h; cases h; exact ⟨rfl, rfl⟩
  | 14, _, h => have h : some (1, 0) = some (n, k) := h; cases h; exact ⟨rfl, rfl⟩
  | 15, _, h => have h : some (3, 0) = some (n, k) := h; cases h; exact ⟨rfl, rfl⟩
  | 16, _, h => have h : some (3, 0) = some (n, k) := h; cases h; exact ⟨rfl, rfl⟩
  | 17, _, h => have h : some (2, 0) = some (n, k) := h; cases h; exact ⟨rfl, rfl⟩
  | 18, _, h => have h : some (2, 0) = some (n, k) := h; cases h; exact ⟨rfl, rfl⟩
  | 19, _, h => have h : some (1, 0) = some (n, k) := h; cases h; exact ⟨rfl, rfl⟩
  | 20, _, h => have h : some (0, 0) = some (n, k) := h; cases h; exact ⟨rfl, rfl⟩
  | 21, _, h => have h : some (0, 0) = some (n, k) := h; cases h; exact ⟨rfl, rfl⟩
  | 22, _, h => have h : some (0, 0) = some (n, k) := h; cases h; exact ⟨rfl, rfl⟩
theorem shape_out {p : Int} (h : ¬ (0 ≤ p ∧ p < 23)) : PyKm563.shape p = none := by
  unfold PyKm563.shape
  repeat rw [if_neg (by omega)]
theorem shape_is {p : Int} {n k : Nat} (h : PyKm563.shape p = some (n, k)) : k = 0 ∧ ∃ w : Nat, w < 23 ∧ p = (w : Int) ∧ NUM[w]? = some n := by
  by_cases q : 0 ≤ p ∧ p < 23
  · obtain ⟨w, rfl⟩ : ∃ w : Nat, p = (w : Int) := ⟨p.toNat, by omega⟩
    have := shape_nat (by omega) h
    exact ⟨this.1, w, by omega, rfl, this.2⟩
  · rw [shape_out q] at h
    cases h
theorem toInts_drop (l : List Nat) (i : Nat) : (toInts l).drop i = toInts (l.drop i) := by
  unfold toInts
  rw [List.map_drop]
theorem toInts_take (l : List Nat) (i : Nat) : (toInts l).take i = toInts (l.take i) := by
  unfold toInts
  rw [List.map_take]
theorem toInts_len (l : List Nat) : (toInts l).length = l.length := by
  unfold toInts
  rw [List.length_map]
theorem len0 {l : List Nat} (h : l.length = 0) : l = [] := List.length_eq_zero_iff.mp h
theorem len1 {l : List Nat} (h : l.length = 1) : ∃ a, l = [a] := by
  match l, h with
  | [a], _ => exact ⟨a, rfl⟩
theorem len2 {l : List Nat} (h : l.length = 2) : ∃ a b, l = [a, b] := by
  match l, h with
  | [a, b], _ => exact ⟨a, b, rfl⟩
theorem len3 {l : List Nat} (h : l.length = 3) : ∃ a b c, l = [a, b, c] := by
  match l, h with
  | [a, b, c], _ => exact ⟨a, b, c, rfl⟩
/-- the specification's reading of a call is dec's -/
theorem parse_is {w n : Nat} {l : List Nat} (hn : NUM[w]? = some n) (hl : l.length = n) : Km563Neutral.parseCall [(w : Int) :: toInts l] = dec w l ∧ ∃ c, dec w l = some c := by
  have hw : w < 23 := (List.getElem?_eq_some_iff.mp hn).1
  match w, hw, hn with
  | 0, _, hn => cases hn; obtain ⟨a, b, c, rfl⟩ := len3 hl; exact ⟨rfl, _, rfl⟩
  | 1, _, hn => cases hn; obtain ⟨a, rfl⟩ := len1 hl; exact ⟨rfl, _, rfl⟩
  | 2, _, hn => cases hn; obtain ⟨a, b, rfl⟩ := len2 hl; exact ⟨rfl, _, rfl⟩
  | 3, _, hn => cases hn; obtain ⟨a, rfl⟩ := len1 hl; exact ⟨rfl, _, rfl⟩
  | 4, _, hn => cases hn; obtain rfl := len0 hl; exact ⟨rfl, _, rfl⟩
  | 5, _, hn => cases hn; obtain ⟨a, rfl⟩ := len1 hl; exact ⟨rfl, _, rfl⟩
  | 6, _, hn => cases hn; obtain ⟨a, rfl⟩ := len1 hl; exact ⟨rfl, _, rfl⟩
  | 7, _, hn => cases hn; obtain rfl := len0 hl; exact ⟨rfl, _, rfl⟩
  | 8, _, hn => cases hn; obtain rfl := len0 hl; exact ⟨rfl, _, rfl⟩
  | 9, _, hn => cases hn; obtain ⟨a, b, rfl⟩ := len2 hl; exact ⟨rfl, _, rfl⟩
  | 10, _, hn => cases hn; obtain ⟨a, rfl⟩ := len1 hl; exact ⟨rfl, _, rfl⟩
  | 11, _, hn => cases hn; obtain rfl := len0 hl; exact ⟨rfl, _, rfl⟩
  | 12, _, hn => cases hn; obtain ⟨a, b, rfl⟩ := len2 hl; exact ⟨rfl, _, rfl⟩
  | 13, _, hn => cases hn; obtain ⟨a, rfl⟩ := len1 hl; exact ⟨rfl, _, rfl⟩
  | 14, _, hn => cases hn; obtain ⟨a, rfl⟩ := len1 hl; exact ⟨rfl, _, rfl⟩
  | 15, _, hn => cases hn; obtain ⟨a, b, c, rfl⟩ := len3 hl; exact ⟨rfl, _, rfl⟩
  | 16, _, hn => cases hn; obtain ⟨a, b, c, rfl⟩ := len3 hl; exact ⟨rfl, _, rfl⟩
  | 17, _, hn => cases hn; obtain ⟨a, b, rfl⟩ := len2 hl; exact ⟨rfl, _, rfl⟩
  | 18, _, hn => cases hn; obtain ⟨a, b, rfl⟩ := len2 hl; exact ⟨rfl, _, rfl⟩
  | 19, _, hn => cases hn; obtain ⟨a, rfl⟩ := len1 hl; exact ⟨rfl, _, rfl⟩
  | 20, _, hn => cases hn; obtain rfl := len0 hl; exact ⟨rfl, _, rfl⟩
  | 21, _, hn => cases hn; obtain rfl := len0 hl; exact ⟨rfl, _, rfl⟩
  | 22, _, hn => cases hn; obtain rfl := len0 hl; exact ⟨rfl, _, rfl⟩
def nums (r : Result) : List Int := r.num :: r.nums
/-- what is still to be answered -/
def due (st : State) (cs : List (List (List Int))) : List Int := PyFlat.told (PyFlat.played Km563Neutral.step st cs)
/-- one call is read -/
theorem read_one {f w : Nat} {r : List Nat} {cs : List (List (List Int))} (h : PyFlat.calls PyKm563.shape f (toInts (w :: r)) = some cs) (st : State) :
    ∃ n c f' cs', NUM[w]? = some n ∧ n ≤ r.length ∧ dec w (r.take n) = some c ∧ PyFlat.calls PyKm563.shape f' (toInts (r.drop n)) = some cs' ∧
      due st cs = (((nums (step st c).2).length : Nat) : Int) :: nums (step st c).2 ++ due (step st c).1 cs' := by
  cases f with
  | zero => cases h
  | succ f =>
    have h : (match PyFlat.call PyKm563.shape ((w : Int) :: toInts r) with
      | none => none
      | some (c, t) => match PyFlat.calls PyKm563.shape f t with
        | none => none
        | some cs => some (c :: cs)) = some cs := h
    have hc : PyFlat.call PyKm563.shape ((w : Int) :: toInts r) = match PyKm563.shape (w : Int) with
      | none => none
      | some (n, k) => if (toInts r).length < n then none else match PyFlat.rows k ((toInts r).drop n) with
        | none => none
        | some (xs, t) => some (((w : Int) :: (toInts r).take n) :: xs, t) := rfl
    rw [hc] at h
    cases hs : PyKm563.shape (w : Int) with
    | none => rw [hs] at h; cases h
    | some nk =>
      obtain ⟨n, k⟩ := nk
      obtain ⟨rfl, w', hw', e, hn⟩ := shape_is hs
      have ew : w = w' := by omega
      subst ew
      rw [hs] at h
      by_cases q : (toInts r).length < n
      · simp only [if_pos q] at h
        cases h
      · simp only [if_neg q, PyFlat.rows] at h
        rw [toInts_len] at q
        rw [toInts_drop, toInts_take] at h
        cases h2 : PyFlat.calls PyKm563.shape f (toInts (r.drop n)) with
        | none => rw [h2] at h; cases h
        | some cs' =>
          rw [h2] at h
          cases h
          obtain ⟨p1, c, p2⟩ := parse_is hn (show (r.take n).length = n by rw [List.length_take]; omega)
          refine ⟨n, c, f, cs', hn, by omega, p2, h2, ?_⟩
          have e1 : Km563Neutral.step st [(w : Int) :: toInts (r.take n)] = ((step st c).1, nums (step st c).2) := by
            unfold Km563Neutral.step
            rw [p1, p2]
            rfl
          show PyFlat.told ((Km563Neutral.step st [(w : Int) :: toInts (r.take n)]).2 :: PyFlat.played Km563Neutral.step (Km563Neutral.step st [(w : Int) :: toInts (r.take n)]).1 cs') = _
          rw [e1]
          rfl
theorem read_end {f : Nat} {cs : List (List (List Int))} (h : PyFlat.calls PyKm563.shape f (toInts []) = some cs) : cs = [] := by
  cases f with
  | zero => cases h; rfl
  | succ f => cases h; rfl
/-- what «asked» gives -/
theorem asked_is {l : List Int} (h : PyKm563.answers_asked l = true) : ∃ cs, PyFlat.calls PyKm563.shape l.length l = some cs ∧ PyKm563.answers l = due none cs ∧ (PyKm563.answers l).length ≤ 10000000 := by
  unfold PyKm563.answers_asked at h
  cases e : PyFlat.calls PyKm563.shape l.length l with
  | none => rw [e] at h; cases h
  | some cs =>
    rw [e] at h
    simp only [Bool.and_eq_true] at h
    refine ⟨cs, rfl, ?_, ?_⟩
    · unfold PyKm563.answers PyKm563.calls
      rw [e]
      show PyFlat.told (PyFlat.played Km563Neutral.step Km563Neutral.start (cs.map PyKm563.whole)) = _
      rw [map_whole]
      rfl
    · have := h.2
      unfold PyFlat.short at this
      exact of_decide_eq_true this
end IceM
set_option linter.all false
set_option maxRecDepth 100000
set_option maxHeartbeats 2000000
/-! The walk, part 0: places, facts of the text, the heap's words, two rules of the prover's own. -/
namespace IceW
open PySem PySem.Spec PyProof.Rows L2
/-- a constant of the module -/
theorem pe_k {X : Cx} {x : Str} {v : V} {pos : Pos} (hg : Gl X x) (h : ∃ u, X.mg x = some u ∧ RelV v u) (hd : (x == ("__debug__" : Str)) = false := by decide) : PE X (.Name x pos) (tC v) :=
  match h with
  | ⟨_, hm, r⟩ => pe_glob hg hm r hd
/-! ### the text by places (printed by gen.py) -/
def top (i : Nat) : Stmt := PySem.Challenge.pw_icebounds_s01_answers.main.body.getD i (.Pass ⟨0, 0, 0, 0⟩)
abbrev s_is_consistent : Stmt := top 2
abbrev s_is_consistent_with : Stmt := top 3
abbrev s_are_consistent : Stmt := top 4
abbrev s_lower_at : Stmt := top 5
abbrev s_upper_at : Stmt := top 6
abbrev s_uncertainty_at : Stmt := top 7
abbrev s_total_of : Stmt := top 8
abbrev s_without_cell : Stmt := top 9
abbrev s_step_between : Stmt := top 10
abbrev s_smallest_step : Stmt := top 11
abbrev s_g_init : Stmt := inClass (top 13) 0
abbrev s_g_cell_count : Stmt := inClass (top 13) 1
abbrev s_g_cells : Stmt := inClass (top 13) 2
abbrev s_g_has_cell : Stmt := inClass (top 13) 3
abbrev s_g_column_of : Stmt := inClass (top 13) 4
abbrev s_g_row_of : Stmt := inClass (top 13) 5
abbrev s_g_distance : Stmt := inClass (top 13) 6
abbrev s_g_neighbours : Stmt := inClass (top 13) 7
abbrev s_steps_from : Stmt := top 15
abbrev s_is_beside : Stmt := top 16
abbrev s_cell_before : Stmt := top 17
abbrev s_route : Stmt := top 18
abbrev s_counted : Stmt := top 27
abbrev s_i_init : Stmt := inClass (top 28) 0
abbrev s_i_set_max_step : Stmt := inClass (top 28) 1
abbrev s_i_measure_error : Stmt := inClass (top 28) 2
abbrev s_i_with_measurement : Stmt := inClass (top 28) 3
abbrev s_i_measure : Stmt := inClass (top 28) 4
abbrev s_i_is_measured : Stmt := inClass (top 28) 5
abbrev s_i_remove_measurement : Stmt := inClass (top 28) 6
abbrev s_i_list_measurements : Stmt := inClass (top 28) 7
abbrev s_i_lower : Stmt := inClass (top 28) 8
abbrev s_i_upper : Stmt := inClass (top 28) 9
abbrev s_i_uncertainty : Stmt := inClass (top 28) 10
abbrev s_i_lower_bounds : Stmt := inClass (top 28) 11
abbrev s_i_upper_bounds : Stmt := inClass (top 28) 12
abbrev s_i_is_possible : Stmt := inClass (top 28) 13
abbrev s_i_most_uncertain_cell : Stmt := inClass (top 28) 14
abbrev s_i_status_of : Stmt := inClass (top 28) 15
abbrev s_i_check_cell : Stmt := inClass (top 28) 16
abbrev s_i_cells_with : Stmt := inClass (top 28) 17
abbrev s_i_listed_cells : Stmt := inClass (top 28) 18
abbrev s_i_have_cells : Stmt := inClass (top 28) 19
abbrev s_i_route_for : Stmt := inClass (top 28) 20
abbrev s_i_safe_route : Stmt := inClass (top 28) 21
abbrev s_i_safe_route_length : Stmt := inClass (top 28) 22
abbrev s_i_max_safe_thickness : Stmt := inClass (top 28) 23
abbrev s_i_total_with : Stmt := inClass (top 28) 24
abbrev s_i_total_uncertainty_with : Stmt := inClass (top 28) 25
abbrev s_i_worst_total_uncertainty : Stmt := inClass (top 28) 26
abbrev s_i_smallest_consistent_step : Stmt := inClass (top 28) 27
abbrev s_i_total_uncertainty : Stmt := inClass (top 28) 28
abbrev s_i_summary : Stmt := inClass (top 28) 29
abbrev s_is_size : Stmt := top 34
abbrev s_one_cell : Stmt := top 35
abbrev s_change : Stmt := top 36
abbrev s_bounds : Stmt := top 37
abbrev s_safety : Stmt := top 38
abbrev s_totals : Stmt := top 39
abbrev s_f_init : Stmt := inClass (top 40) 0
abbrev s_f_create : Stmt := inClass (top 40) 1
abbrev s_f_answer : Stmt := inClass (top 40) 2
abbrev s_answers : Stmt := top 41
theorem sc_is_consistent : FnScope ["grid", "step", "one", "other"] ["grid", "step", "one", "other"] (defScope s_is_consistent) := ⟨rfl, rfl, rfl, by decide +kernel, rfl, by decide +kernel, by decide +kernel⟩
theorem sc_is_consistent_with : FnScope ["grid", "step", "measurement", "measurements", "other"] ["grid", "step", "measurement", "measurements"] (defScope s_is_consistent_with) := ⟨rfl, rfl, rfl, by decide +kernel, rfl, by decide +kernel, by decide +kernel⟩
theorem sc_are_consistent : FnScope ["grid", "step", "measurements", "one"] ["grid", "step", "measurements"] (defScope s_are_consistent) := ⟨rfl, rfl, rfl, by decide +kernel, rfl, by decide +kernel, by decide +kernel⟩
theorem sc_lower_at : FnScope ["grid", "step", "measurements", "cell", "place", "thickness"] ["grid", "step", "measurements", "cell"] (defScope s_lower_at) := ⟨rfl, rfl, rfl, by decide +kernel, rfl, by decide +kernel, by decide +kernel⟩
theorem sc_upper_at : FnScope ["grid", "step", "measurements", "cell", "place", "thickness"] ["grid", "step", "measurements", "cell"] (defScope s_upper_at) := ⟨rfl, rfl, rfl, by decide +kernel, rfl, by decide +kernel, by decide +kernel⟩
theorem sc_uncertainty_at : FnScope ["grid", "step", "measurements", "cell"] ["grid", "step", "measurements", "cell"] (defScope s_uncertainty_at) := ⟨rfl, rfl, rfl, by decide +kernel, rfl, by decide +kernel, by decide +kernel⟩
theorem sc_total_of : FnScope ["grid", "step", "measurements", "cell"] ["grid", "step", "measurements"] (defScope s_total_of) := ⟨rfl, rfl, rfl, by decide +kernel, rfl, by decide +kernel, by decide +kernel⟩
theorem sc_without_cell : FnScope ["measurements", "cell", "measurement"] ["measurements", "cell"] (defScope s_without_cell) := ⟨rfl, rfl, rfl, by decide +kernel, rfl, by decide +kernel, by decide +kernel⟩
theorem sc_step_between : FnScope ["grid", "one", "other", "distance"] ["grid", "one", "other"] (defScope s_step_between) := ⟨rfl, rfl, rfl, by decide +kernel, rfl, by decide +kernel, by decide +kernel⟩
theorem sc_smallest_step : FnScope ["grid", "measurements", "found", "one", "other"] ["grid", "measurements"] (defScope s_smallest_step) := ⟨rfl, rfl, rfl, by decide +kernel, rfl, by decide +kernel, by decide +kernel⟩
theorem sc_g_init : FnScope ["self", "columns", "rows"] ["self", "columns", "rows"] (defScope s_g_init) := ⟨rfl, rfl, rfl, by decide +kernel, rfl, by decide +kernel, by decide +kernel⟩
theorem sc_g_cell_count : FnScope ["self"] ["self"] (defScope s_g_cell_count) := ⟨rfl, rfl, rfl, by decide +kernel, rfl, by decide +kernel, by decide +kernel⟩
theorem sc_g_cells : FnScope ["self"] ["self"] (defScope s_g_cells) := ⟨rfl, rfl, rfl, by decide +kernel, rfl, by decide +kernel, by decide +kernel⟩
theorem sc_g_has_cell : FnScope ["self", "cell"] ["self", "cell"] (defScope s_g_has_cell) := ⟨rfl, rfl, rfl, by decide +kernel, rfl, by decide +kernel, by decide +kernel⟩
theorem sc_g_column_of : FnScope ["self", "cell"] ["self", "cell"] (defScope s_g_column_of) := ⟨rfl, rfl, rfl, by decide +kernel, rfl, by decide +kernel, by decide +kernel⟩
theorem sc_g_row_of : FnScope ["self", "cell"] ["self", "cell"] (defScope s_g_row_of) := ⟨rfl, rfl, rfl, by decide +kernel, rfl, by decide +kernel, by decide +kernel⟩
theorem sc_g_distance : FnScope ["self", "one", "other", "across"] ["self", "one", "other"] (defScope s_g_distance) := ⟨rfl, rfl, rfl, by decide +kernel, rfl, by decide +kernel, by decide +kernel⟩
theorem sc_g_neighbours : FnScope ["self", "cell", "found"] ["self", "cell"] (defScope s_g_neighbours) := ⟨rfl, rfl, rfl, by decide +kernel, rfl, by decide +kernel, by decide +kernel⟩
theorem sc_steps_from : FnScope ["grid", "allowed", "origin", "found", "steps", "cell", "later"] ["grid", "allowed", "origin"] (defScope s_steps_from) := ⟨rfl, rfl, rfl, by decide +kernel, rfl, by decide +kernel, by decide +kernel⟩
theorem sc_is_beside : FnScope ["grid", "cell", "found", "neighbour"] ["grid", "cell", "found"] (defScope s_is_beside) := ⟨rfl, rfl, rfl, by decide +kernel, rfl, by decide +kernel, by decide +kernel⟩
theorem sc_cell_before : FnScope ["grid", "steps", "cell", "other"] ["grid", "steps", "cell"] (defScope s_cell_before) := ⟨rfl, rfl, rfl, by decide +kernel, rfl, by decide +kernel, by decide +kernel⟩
theorem sc_route : FnScope ["grid", "allowed", "origin", "target", "steps", "found", "turn"] ["grid", "allowed", "origin", "target"] (defScope s_route) := ⟨rfl, rfl, rfl, by decide +kernel, rfl, by decide +kernel, by decide +kernel⟩
theorem sc_counted : FnScope ["numbers"] ["numbers"] (defScope s_counted) := ⟨rfl, rfl, rfl, by decide +kernel, rfl, by decide +kernel, by decide +kernel⟩
theorem sc_i_init : FnScope ["self", "columns", "rows", "step"] ["self", "columns", "rows", "step"] (defScope s_i_init) := ⟨rfl, rfl, rfl, by decide +kernel, rfl, by decide +kernel, by decide +kernel⟩
theorem sc_i_set_max_step : FnScope ["self", "step", "before"] ["self", "step"] (defScope s_i_set_max_step) := ⟨rfl, rfl, rfl, by decide +kernel, rfl, by decide +kernel, by decide +kernel⟩
theorem sc_i_measure_error : FnScope ["self", "cell", "thickness", "others"] ["self", "cell", "thickness"] (defScope s_i_measure_error) := ⟨rfl, rfl, rfl, by decide +kernel, rfl, by decide +kernel, by decide +kernel⟩
theorem sc_i_with_measurement : FnScope ["self", "cell", "thickness"] ["self", "cell", "thickness"] (defScope s_i_with_measurement) := ⟨rfl, rfl, rfl, by decide +kernel, rfl, by decide +kernel, by decide +kernel⟩
theorem sc_i_measure : FnScope ["self", "cell", "thickness", "error"] ["self", "cell", "thickness"] (defScope s_i_measure) := ⟨rfl, rfl, rfl, by decide +kernel, rfl, by decide +kernel, by decide +kernel⟩
theorem sc_i_is_measured : FnScope ["self", "cell", "measurement"] ["self", "cell"] (defScope s_i_is_measured) := ⟨rfl, rfl, rfl, by decide +kernel, rfl, by decide +kernel, by decide +kernel⟩
theorem sc_i_remove_measurement : FnScope ["self", "cell"] ["self", "cell"] (defScope s_i_remove_measurement) := ⟨rfl, rfl, rfl, by decide +kernel, rfl, by decide +kernel, by decide +kernel⟩
theorem sc_i_list_measurements : FnScope ["self", "found", "cell", "thickness"] ["self"] (defScope s_i_list_measurements) := ⟨rfl, rfl, rfl, by decide +kernel, rfl, by decide +kernel, by decide +kernel⟩
theorem sc_i_lower : FnScope ["self", "cell"] ["self", "cell"] (defScope s_i_lower) := ⟨rfl, rfl, rfl, by decide +kernel, rfl, by decide +kernel, by decide +kernel⟩
theorem sc_i_upper : FnScope ["self", "cell"] ["self", "cell"] (defScope s_i_upper) := ⟨rfl, rfl, rfl, by decide +kernel, rfl, by decide +kernel, by decide +kernel⟩
theorem sc_i_uncertainty : FnScope ["self", "cell"] ["self", "cell"] (defScope s_i_uncertainty) := ⟨rfl, rfl, rfl, by decide +kernel, rfl, by decide +kernel, by decide +kernel⟩
theorem sc_i_lower_bounds : FnScope ["self", "cell"] ["self"] (defScope s_i_lower_bounds) := ⟨rfl, rfl, rfl, by decide +kernel, rfl, by decide +kernel, by decide +kernel⟩
theorem sc_i_upper_bounds : FnScope ["self", "cell"] ["self"] (defScope s_i_upper_bounds) := ⟨rfl, rfl, rfl, by decide +kernel, rfl, by decide +kernel, by decide +kernel⟩
theorem sc_i_is_possible : FnScope ["self", "cell", "thickness"] ["self", "cell", "thickness"] (defScope s_i_is_possible) := ⟨rfl, rfl, rfl, by decide +kernel, rfl, by decide +kernel, by decide +kernel⟩
theorem sc_i_most_uncertain_cell : FnScope ["self", "amounts", "cell"] ["self"] (defScope s_i_most_uncertain_cell) := ⟨rfl, rfl, rfl, by decide +kernel, rfl, by decide +kernel, by decide +kernel⟩
theorem sc_i_status_of : FnScope ["self", "required", "cell"] ["self", "required", "cell"] (defScope s_i_status_of) := ⟨rfl, rfl, rfl, by decide +kernel, rfl, by decide +kernel, by decide +kernel⟩
theorem sc_i_check_cell : FnScope ["self", "required", "cell"] ["self", "required", "cell"] (defScope s_i_check_cell) := ⟨rfl, rfl, rfl, by decide +kernel, rfl, by decide +kernel, by decide +kernel⟩
theorem sc_i_cells_with : FnScope ["self", "required", "status", "cell"] ["self", "required", "status"] (defScope s_i_cells_with) := ⟨rfl, rfl, rfl, by decide +kernel, rfl, by decide +kernel, by decide +kernel⟩
theorem sc_i_listed_cells : FnScope ["self", "required", "status"] ["self", "required", "status"] (defScope s_i_listed_cells) := ⟨rfl, rfl, rfl, by decide +kernel, rfl, by decide +kernel, by decide +kernel⟩
theorem sc_i_have_cells : FnScope ["self", "origin", "target"] ["self", "origin", "target"] (defScope s_i_have_cells) := ⟨rfl, rfl, rfl, by decide +kernel, rfl, by decide +kernel, by decide +kernel⟩
theorem sc_i_route_for : FnScope ["self", "required", "origin", "target"] ["self", "required", "origin", "target"] (defScope s_i_route_for) := ⟨rfl, rfl, rfl, by decide +kernel, rfl, by decide +kernel, by decide +kernel⟩
theorem sc_i_safe_route : FnScope ["self", "required", "origin", "target", "found"] ["self", "required", "origin", "target"] (defScope s_i_safe_route) := ⟨rfl, rfl, rfl, by decide +kernel, rfl, by decide +kernel, by decide +kernel⟩
theorem sc_i_safe_route_length : FnScope ["self", "required", "origin", "target", "found"] ["self", "required", "origin", "target"] (defScope s_i_safe_route_length) := ⟨rfl, rfl, rfl, by decide +kernel, rfl, by decide +kernel, by decide +kernel⟩
theorem sc_i_max_safe_thickness : FnScope ["self", "origin", "target", "some", "required"] ["self", "origin", "target"] (defScope s_i_max_safe_thickness) := ⟨rfl, rfl, rfl, by decide +kernel, rfl, by decide +kernel, by decide +kernel⟩
theorem sc_i_total_with : FnScope ["self", "cell", "thickness"] ["self", "cell", "thickness"] (defScope s_i_total_with) := ⟨rfl, rfl, rfl, by decide +kernel, rfl, by decide +kernel, by decide +kernel⟩
theorem sc_i_total_uncertainty_with : FnScope ["self", "cell", "thickness", "error"] ["self", "cell", "thickness"] (defScope s_i_total_uncertainty_with) := ⟨rfl, rfl, rfl, by decide +kernel, rfl, by decide +kernel, by decide +kernel⟩
theorem sc_i_worst_total_uncertainty : FnScope ["self", "cell", "thicknesses", "thickness"] ["self", "cell"] (defScope s_i_worst_total_uncertainty) := ⟨rfl, rfl, rfl, by decide +kernel, rfl, by decide +kernel, by decide +kernel⟩
theorem sc_i_smallest_consistent_step : FnScope ["self"] ["self"] (defScope s_i_smallest_consistent_step) := ⟨rfl, rfl, rfl, by decide +kernel, rfl, by decide +kernel, by decide +kernel⟩
theorem sc_i_total_uncertainty : FnScope ["self"] ["self"] (defScope s_i_total_uncertainty) := ⟨rfl, rfl, rfl, by decide +kernel, rfl, by decide +kernel, by decide +kernel⟩
theorem sc_i_summary : FnScope ["self"] ["self"] (defScope s_i_summary) := ⟨rfl, rfl, rfl, by decide +kernel, rfl, by decide +kernel, by decide +kernel⟩
theorem sc_is_size : FnScope ["columns", "rows", "step"] ["columns", "rows", "step"] (defScope s_is_size) := ⟨rfl, rfl, rfl, by decide +kernel, rfl, by decide +kernel, by decide +kernel⟩
theorem sc_one_cell : FnScope ["instance", "word", "cell"] ["instance", "word", "cell"] (defScope s_one_cell) := ⟨rfl, rfl, rfl, by decide +kernel, rfl, by decide +kernel, by decide +kernel⟩
theorem sc_change : FnScope ["instance", "word", "numbers"] ["instance", "word", "numbers"] (defScope s_change) := ⟨rfl, rfl, rfl, by decide +kernel, rfl, by decide +kernel, by decide +kernel⟩
theorem sc_bounds : FnScope ["instance", "word", "numbers"] ["instance", "word", "numbers"] (defScope s_bounds) := ⟨rfl, rfl, rfl, by decide +kernel, rfl, by decide +kernel, by decide +kernel⟩
theorem sc_safety : FnScope ["instance", "word", "numbers"] ["instance", "word", "numbers"] (defScope s_safety) := ⟨rfl, rfl, rfl, by decide +kernel, rfl, by decide +kernel, by decide +kernel⟩
theorem sc_totals : FnScope ["instance", "word", "numbers"] ["instance", "word", "numbers"] (defScope s_totals) := ⟨rfl, rfl, rfl, by decide +kernel, rfl, by decide +kernel, by decide +kernel⟩
theorem sc_f_init : FnScope ["self"] ["self"] (defScope s_f_init) := ⟨rfl, rfl, rfl, by decide +kernel, rfl, by decide +kernel, by decide +kernel⟩
theorem sc_f_create : FnScope ["self", "numbers", "columns", "rows", "step"] ["self", "numbers"] (defScope s_f_create) := ⟨rfl, rfl, rfl, by decide +kernel, rfl, by decide +kernel, by decide +kernel⟩
theorem sc_f_answer : FnScope ["self", "word", "numbers", "instance"] ["self", "word", "numbers"] (defScope s_f_answer) := ⟨rfl, rfl, rfl, by decide +kernel, rfl, by decide +kernel, by decide +kernel⟩
theorem sc_answers : FnScope ["calls", "field", "found", "place", "word", "end", "told"] ["calls"] (defScope s_answers) := ⟨rfl, rfl, rfl, by decide +kernel, rfl, by decide +kernel, by decide +kernel⟩
/-- a def: where it stands, what it is -/
structure Df where
  a : Addr
  d : FuncData
structure Ad where
  c_Grid : Addr
  c_Instance : Addr
  c_Field : Addr
  is_consistent : Df
  is_consistent_with : Df
  are_consistent : Df
  lower_at : Df
  upper_at : Df
  uncertainty_at : Df
  total_of : Df
  without_cell : Df
  step_between : Df
  smallest_step : Df
  g_init : Df
  g_cell_count : Df
  g_cells : Df
  g_has_cell : Df
  g_column_of : Df
  g_row_of : Df
  g_distance : Df
  g_neighbours : Df
  steps_from : Df
  is_beside : Df
  cell_before : Df
  route : Df
  counted : Df
  i_init : Df
  i_set_max_step : Df
  i_measure_error : Df
  i_with_measurement : Df
  i_measure : Df
  i_is_measured : Df
  i_remove_measurement : Df
  i_list_measurements : Df
  i_lower : Df
  i_upper : Df
  i_uncertainty : Df
  i_lower_bounds : Df
  i_upper_bounds : Df
  i_is_possible : Df
  i_most_uncertain_cell : Df
  i_status_of : Df
  i_check_cell : Df
  i_cells_with : Df
  i_listed_cells : Df
  i_have_cells : Df
  i_route_for : Df
  i_safe_route : Df
  i_safe_route_length : Df
  i_max_safe_thickness : Df
  i_total_with : Df
  i_total_uncertainty_with : Df
  i_worst_total_uncertainty : Df
  i_smallest_consistent_step : Df
  i_total_uncertainty : Df
  i_summary : Df
  is_size : Df
  one_cell : Df
  change : Df
  bounds : Df
  safety : Df
  totals : Df
  f_init : Df
  f_create : Df
  f_answer : Df
  answers : Df
structure Txt (K : PySem.W.Frag) (mg : Str → Option Value) (A : Ad) : Prop where
  cl_Grid : Cls K A.c_Grid
  mk_Grid : Mk K A.c_Grid A.g_init.a
  g_Grid : mg "Grid" = some (.ref A.c_Grid)
  n_Grid_columns : NoAttr K A.c_Grid "columns"
  n_Grid_rows : NoAttr K A.c_Grid "rows"
  cl_Instance : Cls K A.c_Instance
  mk_Instance : Mk K A.c_Instance A.i_init.a
  g_Instance : mg "Instance" = some (.ref A.c_Instance)
  n_Instance_grid : NoAttr K A.c_Instance "grid"
  n_Instance_step : NoAttr K A.c_Instance "step"
  n_Instance_measurements : NoAttr K A.c_Instance "measurements"
  cl_Field : Cls K A.c_Field
  mk_Field : Mk K A.c_Field A.f_init.a
  g_Field : mg "Field" = some (.ref A.c_Field)
  n_Field_instance : NoAttr K A.c_Field "instance"
  n_abs : mg "abs" = none
  n_max : mg "max" = none
  n_min : mg "min" = none
  n_sum : mg "sum" = none
  n_all : mg "all" = none
  n_any : mg "any" = none
  n_len : mg "len" = none
  n_list : mg "list" = none
  n_range : mg "range" = none
  n_int : mg "int" = none
  k_MOST_THICKNESS : ∃ u, mg "MOST_THICKNESS" = some u ∧ RelV (.int (99)) u
  k_NO_CELL : ∃ u, mg "NO_CELL" = some u ∧ RelV (.int (-2)) u
  k_MEASURED : ∃ u, mg "MEASURED" = some u ∧ RelV (.int (-17)) u
  k_OUTSIDE : ∃ u, mg "OUTSIDE" = some u ∧ RelV (.int (-22)) u
  k_NOT_POSSIBLE : ∃ u, mg "NOT_POSSIBLE" = some u ∧ RelV (.int (-33)) u
  k_MOST_STEP : ∃ u, mg "MOST_STEP" = some u ∧ RelV (.int (20)) u
  k_SAFE : ∃ u, mg "SAFE" = some u ∧ RelV (.int (1)) u
  k_UNCERTAIN : ∃ u, mg "UNCERTAIN" = some u ∧ RelV (.int (2)) u
  k_NO_INSTANCE : ∃ u, mg "NO_INSTANCE" = some u ∧ RelV (.int (-11)) u
  k_MOST_SIDE : ∃ u, mg "MOST_SIDE" = some u ∧ RelV (.int (5)) u
  k_CREATE : ∃ u, mg "CREATE" = some u ∧ RelV (.int (0)) u
  k_NUMBERS : ∃ p, (∃ u, mg "NUMBERS" = some u ∧ RelV (.ref p) u) ∧ ∀ H : Hp, SqT K H p ([3, 1, 2, 1, 0, 1, 1, 0, 0, 2, 1, 0, 2, 1, 1, 3, 3, 2, 2, 1, 0, 0, 0].map V.int)
  f_is_consistent : Fun K "is_consistent" "is_consistent" s_is_consistent A.is_consistent.a A.is_consistent.d
  b_is_consistent : Binds K A.is_consistent.d ["grid", "step", "one", "other"] []
  g_is_consistent : mg "is_consistent" = some (.ref A.is_consistent.a)
  f_is_consistent_with : Fun K "is_consistent_with" "is_consistent_with" s_is_consistent_with A.is_consistent_with.a A.is_consistent_with.d
  b_is_consistent_with : Binds K A.is_consistent_with.d ["grid", "step", "measurement", "measurements"] []
  g_is_consistent_with : mg "is_consistent_with" = some (.ref A.is_consistent_with.a)
  f_are_consistent : Fun K "are_consistent" "are_consistent" s_are_consistent A.are_consistent.a A.are_consistent.d
  b_are_consistent : Binds K A.are_consistent.d ["grid", "step", "measurements"] []
  g_are_consistent : mg "are_consistent" = some (.ref A.are_consistent.a)
  f_lower_at : Fun K "lower_at" "lower_at" s_lower_at A.lower_at.a A.lower_at.d
  b_lower_at : Binds K A.lower_at.d ["grid", "step", "measurements", "cell"] []
  g_lower_at : mg "lower_at" = some (.ref A.lower_at.a)
  f_upper_at : Fun K "upper_at" "upper_at" s_upper_at A.upper_at.a A.upper_at.d
  b_upper_at : Binds K A.upper_at.d ["grid", "step", "measurements", "cell"] []
  g_upper_at : mg "upper_at" = some (.ref A.upper_at.a)
  f_uncertainty_at : Fun K "uncertainty_at" "uncertainty_at" s_uncertainty_at A.uncertainty_at.a A.uncertainty_at.d
  b_uncertainty_at : Binds K A.uncertainty_at.d ["grid", "step", "measurements", "cell"] []
  g_uncertainty_at : mg "uncertainty_at" = some (.ref A.uncertainty_at.a)
  f_total_of : Fun K "total_of" "total_of" s_total_of A.total_of.a A.total_of.d
  b_total_of : Binds K A.total_of.d ["grid", "step", "measurements"] []
  g_total_of : mg "total_of" = some (.ref A.total_of.a)
  f_without_cell : Fun K "without_cell" "without_cell" s_without_cell A.without_cell.a A.without_cell.d
  b_without_cell : Binds K A.without_cell.d ["measurements", "cell"] []
  g_without_cell : mg "without_cell" = some (.ref A.without_cell.a)
  f_step_between : Fun K "step_between" "step_between" s_step_between A.step_between.a A.step_between.d
  b_step_between : Binds K A.step_between.d ["grid", "one", "other"] []
  g_step_between : mg "step_between" = some (.ref A.step_between.a)
  f_smallest_step : Fun K "smallest_step" "smallest_step" s_smallest_step A.smallest_step.a A.smallest_step.d
  b_smallest_step : Binds K A.smallest_step.d ["grid", "measurements"] []
  g_smallest_step : mg "smallest_step" = some (.ref A.smallest_step.a)
  f_g_init : Fun K "__init__" "Grid.__init__" s_g_init A.g_init.a A.g_init.d
  b_g_init : Binds K A.g_init.d ["self", "columns", "rows"] []
  f_g_cell_count : Fun K "cell_count" "Grid.cell_count" s_g_cell_count A.g_cell_count.a A.g_cell_count.d
  b_g_cell_count : Binds K A.g_cell_count.d ["self"] []
  m_g_cell_count : Meth K A.c_Grid "cell_count" A.g_cell_count.a
  f_g_cells : Fun K "cells" "Grid.cells" s_g_cells A.g_cells.a A.g_cells.d
  b_g_cells : Binds K A.g_cells.d ["self"] []
  m_g_cells : Meth K A.c_Grid "cells" A.g_cells.a
  f_g_has_cell : Fun K "has_cell" "Grid.has_cell" s_g_has_cell A.g_has_cell.a A.g_has_cell.d
  b_g_has_cell : Binds K A.g_has_cell.d ["self", "cell"] []
  m_g_has_cell : Meth K A.c_Grid "has_cell" A.g_has_cell.a
  f_g_column_of : Fun K "column_of" "Grid.column_of" s_g_column_of A.g_column_of.a A.g_column_of.d
  b_g_column_of : Binds K A.g_column_of.d ["self", "cell"] []
  m_g_column_of : Meth K A.c_Grid "column_of" A.g_column_of.a
  f_g_row_of : Fun K "row_of" "Grid.row_of" s_g_row_of A.g_row_of.a A.g_row_of.d
  b_g_row_of : Binds K A.g_row_of.d ["self", "cell"] []
  m_g_row_of : Meth K A.c_Grid "row_of" A.g_row_of.a
  f_g_distance : Fun K "distance" "Grid.distance" s_g_distance A.g_distance.a A.g_distance.d
  b_g_distance : Binds K A.g_distance.d ["self", "one", "other"] []
  m_g_distance : Meth K A.c_Grid "distance" A.g_distance.a
  f_g_neighbours : Fun K "neighbours" "Grid.neighbours" s_g_neighbours A.g_neighbours.a A.g_neighbours.d
  b_g_neighbours : Binds K A.g_neighbours.d ["self", "cell"] []
  m_g_neighbours : Meth K A.c_Grid "neighbours" A.g_neighbours.a
  f_steps_from : Fun K "steps_from" "steps_from" s_steps_from A.steps_from.a A.steps_from.d
  b_steps_from : Binds K A.steps_from.d ["grid", "allowed", "origin"] []
  g_steps_from : mg "steps_from" = some (.ref A.steps_from.a)
  f_is_beside : Fun K "is_beside" "is_beside" s_is_beside A.is_beside.a A.is_beside.d
  b_is_beside : Binds K A.is_beside.d ["grid", "cell", "found"] []
  g_is_beside : mg "is_beside" = some (.ref A.is_beside.a)
  f_cell_before : Fun K "cell_before" "cell_before" s_cell_before A.cell_before.a A.cell_before.d
  b_cell_before : Binds K A.cell_before.d ["grid", "steps", "cell"] []
  g_cell_before : mg "cell_before" = some (.ref A.cell_before.a)
  f_route : Fun K "route" "route" s_route A.route.a A.route.d
  b_route : Binds K A.route.d ["grid", "allowed", "origin", "target"] []
  g_route : mg "route" = some (.ref A.route.a)
  f_counted : Fun K "counted" "counted" s_counted A.counted.a A.counted.d
  b_counted : Binds K A.counted.d ["numbers"] []
  g_counted : mg "counted" = some (.ref A.counted.a)
  f_i_init : Fun K "__init__" "Instance.__init__" s_i_init A.i_init.a A.i_init.d
  b_i_init : Binds K A.i_init.d ["self", "columns", "rows", "step"] []
  f_i_set_max_step : Fun K "set_max_step" "Instance.set_max_step" s_i_set_max_step A.i_set_max_step.a A.i_set_max_step.d
  b_i_set_max_step : Binds K A.i_set_max_step.d ["self", "step"] []
  m_i_set_max_step : Meth K A.c_Instance "set_max_step" A.i_set_max_step.a
  f_i_measure_error : Fun K "measure_error" "Instance.measure_error" s_i_measure_error A.i_measure_error.a A.i_measure_error.d
  b_i_measure_error : Binds K A.i_measure_error.d ["self", "cell", "thickness"] []
  m_i_measure_error : Meth K A.c_Instance "measure_error" A.i_measure_error.a
  f_i_with_measurement : Fun K "with_measurement" "Instance.with_measurement" s_i_with_measurement A.i_with_measurement.a A.i_with_measurement.d
  b_i_with_measurement : Binds K A.i_with_measurement.d ["self", "cell", "thickness"] []
  m_i_with_measurement : Meth K A.c_Instance "with_measurement" A.i_with_measurement.a
  f_i_measure : Fun K "measure" "Instance.measure" s_i_measure A.i_measure.a A.i_measure.d
  b_i_measure : Binds K A.i_measure.d ["self", "cell", "thickness"] []
  m_i_measure : Meth K A.c_Instance "measure" A.i_measure.a
  f_i_is_measured : Fun K "is_measured" "Instance.is_measured" s_i_is_measured A.i_is_measured.a A.i_is_measured.d
  b_i_is_measured : Binds K A.i_is_measured.d ["self", "cell"] []
  m_i_is_measured : Meth K A.c_Instance "is_measured" A.i_is_measured.a
  f_i_remove_measurement : Fun K "remove_measurement" "Instance.remove_measurement" s_i_remove_measurement A.i_remove_measurement.a A.i_remove_measurement.d
  b_i_remove_measurement : Binds K A.i_remove_measurement.d ["self", "cell"] []
  m_i_remove_measurement : Meth K A.c_Instance "remove_measurement" A.i_remove_measurement.a
  f_i_list_measurements : Fun K "list_measurements" "Instance.list_measurements" s_i_list_measurements A.i_list_measurements.a A.i_list_measurements.d
  b_i_list_measurements : Binds K A.i_list_measurements.d ["self"] []
  m_i_list_measurements : Meth K A.c_Instance "list_measurements" A.i_list_measurements.a
  f_i_lower : Fun K "lower" "Instance.lower" s_i_lower A.i_lower.a A.i_lower.d
  b_i_lower : Binds K A.i_lower.d ["self", "cell"] []
  m_i_lower : Meth K A.c_Instance "lower" A.i_lower.a
  f_i_upper : Fun K "upper" "Instance.upper" s_i_upper A.i_upper.a A.i_upper.d
  b_i_upper : Binds K A.i_upper.d ["self", "cell"] []
  m_i_upper : Meth K A.c_Instance "upper" A.i_upper.a
  f_i_uncertainty : Fun K "uncertainty" "Instance.uncertainty" s_i_uncertainty A.i_uncertainty.a A.i_uncertainty.d
  b_i_uncertainty : Binds K A.i_uncertainty.d ["self", "cell"] []
  m_i_uncertainty : Meth K A.c_Instance "uncertainty" A.i_uncertainty.a
  f_i_lower_bounds : Fun K "lower_bounds" "Instance.lower_bounds" s_i_lower_bounds A.i_lower_bounds.a A.i_lower_bounds.d
  b_i_lower_bounds : Binds K A.i_lower_bounds.d ["self"] []
  m_i_lower_bounds : Meth K A.c_Instance "lower_bounds" A.i_lower_bounds.a
  f_i_upper_bounds : Fun K "upper_bounds" "Instance.upper_bounds" s_i_upper_bounds A.i_upper_bounds.a A.i_upper_bounds.d
  b_i_upper_bounds : Binds K A.i_upper_bounds.d ["self"] []
  m_i_upper_bounds : Meth K A.c_Instance "upper_bounds" A.i_upper_bounds.a
  f_i_is_possible : Fun K "is_possible" "Instance.is_possible" s_i_is_possible A.i_is_possible.a A.i_is_possible.d
  b_i_is_possible : Binds K A.i_is_possible.d ["self", "cell", "thickness"] []
  m_i_is_possible : Meth K A.c_Instance "is_possible" A.i_is_possible.a
  f_i_most_uncertain_cell : Fun K "most_uncertain_cell" "Instance.most_uncertain_cell" s_i_most_uncertain_cell A.i_most_uncertain_cell.a A.i_most_uncertain_cell.d
  b_i_most_uncertain_cell : Binds K A.i_most_uncertain_cell.d ["self"] []
  m_i_most_uncertain_cell : Meth K A.c_Instance "most_uncertain_cell" A.i_most_uncertain_cell.a
  f_i_status_of : Fun K "status_of" "Instance.status_of" s_i_status_of A.i_status_of.a A.i_status_of.d
  b_i_status_of : Binds K A.i_status_of.d ["self", "required", "cell"] []
  m_i_status_of : Meth K A.c_Instance "status_of" A.i_status_of.a
  f_i_check_cell : Fun K "check_cell" "Instance.check_cell" s_i_check_cell A.i_check_cell.a A.i_check_cell.d
  b_i_check_cell : Binds K A.i_check_cell.d ["self", "required", "cell"] []
  m_i_check_cell : Meth K A.c_Instance "check_cell" A.i_check_cell.a
  f_i_cells_with : Fun K "cells_with" "Instance.cells_with" s_i_cells_with A.i_cells_with.a A.i_cells_with.d
  b_i_cells_with : Binds K A.i_cells_with.d ["self", "required", "status"] []
  m_i_cells_with : Meth K A.c_Instance "cells_with" A.i_cells_with.a
  f_i_listed_cells : Fun K "listed_cells" "Instance.listed_cells" s_i_listed_cells A.i_listed_cells.a A.i_listed_cells.d
  b_i_listed_cells : Binds K A.i_listed_cells.d ["self", "required", "status"] []
  m_i_listed_cells : Meth K A.c_Instance "listed_cells" A.i_listed_cells.a
  f_i_have_cells : Fun K "have_cells" "Instance.have_cells" s_i_have_cells A.i_have_cells.a A.i_have_cells.d
  b_i_have_cells : Binds K A.i_have_cells.d ["self", "origin", "target"] []
  m_i_have_cells : Meth K A.c_Instance "have_cells" A.i_have_cells.a
  f_i_route_for : Fun K "route_for" "Instance.route_for" s_i_route_for A.i_route_for.a A.i_route_for.d
  b_i_route_for : Binds K A.i_route_for.d ["self", "required", "origin", "target"] []
  m_i_route_for : Meth K A.c_Instance "route_for" A.i_route_for.a
  f_i_safe_route : Fun K "safe_route" "Instance.safe_route" s_i_safe_route A.i_safe_route.a A.i_safe_route.d
  b_i_safe_route : Binds K A.i_safe_route.d ["self", "required", "origin", "target"] []
  m_i_safe_route : Meth K A.c_Instance "safe_route" A.i_safe_route.a
  f_i_safe_route_length : Fun K "safe_route_length" "Instance.safe_route_length" s_i_safe_route_length A.i_safe_route_length.a A.i_safe_route_length.d
  b_i_safe_route_length : Binds K A.i_safe_route_length.d ["self", "required", "origin", "target"] []
  m_i_safe_route_length : Meth K A.c_Instance "safe_route_length" A.i_safe_route_length.a
  f_i_max_safe_thickness : Fun K "max_safe_thickness" "Instance.max_safe_thickness" s_i_max_safe_thickness A.i_max_safe_thickness.a A.i_max_safe_thickness.d
  b_i_max_safe_thickness : Binds K A.i_max_safe_thickness.d ["self", "origin", "target"] []
  m_i_max_safe_thickness : Meth K A.c_Instance "max_safe_thickness" A.i_max_safe_thickness.a
  f_i_total_with : Fun K "total_with" "Instance.total_with" s_i_total_with A.i_total_with.a A.i_total_with.d
  b_i_total_with : Binds K A.i_total_with.d ["self", "cell", "thickness"] []
  m_i_total_with : Meth K A.c_Instance "total_with" A.i_total_with.a
  f_i_total_uncertainty_with : Fun K "total_uncertainty_with" "Instance.total_uncertainty_with" s_i_total_uncertainty_with A.i_total_uncertainty_with.a A.i_total_uncertainty_with.d
  b_i_total_uncertainty_with : Binds K A.i_total_uncertainty_with.d ["self", "cell", "thickness"] []
  m_i_total_uncertainty_with : Meth K A.c_Instance "total_uncertainty_with" A.i_total_uncertainty_with.a
  f_i_worst_total_uncertainty : Fun K "worst_total_uncertainty" "Instance.worst_total_uncertainty" s_i_worst_total_uncertainty A.i_worst_total_uncertainty.a A.i_worst_total_uncertainty.d
  b_i_worst_total_uncertainty : Binds K A.i_worst_total_uncertainty.d ["self", "cell"] []
  m_i_worst_total_uncertainty : Meth K A.c_Instance "worst_total_uncertainty" A.i_worst_total_uncertainty.a
  f_i_smallest_consistent_step : Fun K "smallest_consistent_step" "Instance.smallest_consistent_step" s_i_smallest_consistent_step A.i_smallest_consistent_step.a A.i_smallest_consistent_step.d
  b_i_smallest_consistent_step : Binds K A.i_smallest_consistent_step.d ["self"] []
  m_i_smallest_consistent_step : Meth K A.c_Instance "smallest_consistent_step" A.i_smallest_consistent_step.a
  f_i_total_uncertainty : Fun K "total_uncertainty" "Instance.total_uncertainty" s_i_total_uncertainty A.i_total_uncertainty.a A.i_total_uncertainty.d
  b_i_total_uncertainty : Binds K A.i_total_uncertainty.d ["self"] []
  m_i_total_uncertainty : Meth K A.c_Instance "total_uncertainty" A.i_total_uncertainty.a
  f_i_summary : Fun K "summary" "Instance.summary" s_i_summary A.i_summary.a A.i_summary.d
  b_i_summary : Binds K A.i_summary.d ["self"] []
  m_i_summary : Meth K A.c_Instance "summary" A.i_summary.a
  f_is_size : Fun K "is_size" "is_size" s_is_size A.is_size.a A.is_size.d
  b_is_size : Binds K A.is_size.d ["columns", "rows", "step"] []
  g_is_size : mg "is_size" = some (.ref A.is_size.a)
  f_one_cell : Fun K "one_cell" "one_cell" s_one_cell A.one_cell.a A.one_cell.d
  b_one_cell : Binds K A.one_cell.d ["instance", "word", "cell"] []
  g_one_cell : mg "one_cell" = some (.ref A.one_cell.a)
  f_change : Fun K "change" "change" s_change A.change.a A.change.d
  b_change : Binds K A.change.d ["instance", "word", "numbers"] []
  g_change : mg "change" = some (.ref A.change.a)
  f_bounds : Fun K "bounds" "bounds" s_bounds A.bounds.a A.bounds.d
  b_bounds : Binds K A.bounds.d ["instance", "word", "numbers"] []
  g_bounds : mg "bounds" = some (.ref A.bounds.a)
  f_safety : Fun K "safety" "safety" s_safety A.safety.a A.safety.d
  b_safety : Binds K A.safety.d ["instance", "word", "numbers"] []
  g_safety : mg "safety" = some (.ref A.safety.a)
  f_totals : Fun K "totals" "totals" s_totals A.totals.a A.totals.d
  b_totals : Binds K A.totals.d ["instance", "word", "numbers"] []
  g_totals : mg "totals" = some (.ref A.totals.a)
  f_f_init : Fun K "__init__" "Field.__init__" s_f_init A.f_init.a A.f_init.d
  b_f_init : Binds K A.f_init.d ["self"] []
  f_f_create : Fun K "create" "Field.create" s_f_create A.f_create.a A.f_create.d
  b_f_create : Binds K A.f_create.d ["self", "numbers"] []
  m_f_create : Meth K A.c_Field "create" A.f_create.a
  f_f_answer : Fun K "answer" "Field.answer" s_f_answer A.f_answer.a A.f_answer.d
  b_f_answer : Binds K A.f_answer.d ["self", "word", "numbers"] []
  m_f_answer : Meth K A.c_Field "answer" A.f_answer.a
  f_answers : Fun K "answers" "answers" s_answers A.answers.a A.answers.d
  b_answers : Binds K A.answers.d ["calls"] []
  g_answers : mg "answers" = some (.ref A.answers.a)
/-! ### lookups -/
theorem look_at {k : Str} {v : V} {r : List (Str × V)} : List.lookup k ((k, v) :: r) = some v := by
  simp [List.lookup]
theorem look_on {k g : Str} {v : V} {r : List (Str × V)} (h : (k == g) = false) : List.lookup k ((g, v) :: r) = List.lookup k r := by
  simp [List.lookup, h]
theorem put_at {f : Str} {v x : V} {r : List (Str × V)} : putF f v ((f, x) :: r) = (f, v) :: r := by
  simp [putF]
theorem put_on {f g : Str} {v x : V} {r : List (Str × V)} (h : ¬ g = f) : putF f v ((g, x) :: r) = (g, x) :: putF f v r := by
  simp [putF, h]
/-! ### the objects in the heap -/
abbrev Fd := Km563.IceField
def gF (F : Fd) : List (Str × V) := [("columns", .int (F.columns : Int)), ("rows", .int (F.rows : Int))]
theorem gF_c (F : Fd) : (gF F).lookup ("columns" : Str) = some (.int (F.columns : Int)) := look_at
theorem gF_r (F : Fd) : (gF F).lookup ("rows" : Str) = some (.int (F.rows : Int)) := (look_on (by decide +kernel)).trans look_at
theorem gF_no (F : Fd) {m : Str} (h1 : (m == ("columns" : Str)) = false) (h2 : (m == ("rows" : Str)) = false) : (gF F).lookup m = none := (look_on h1).trans ((look_on h2).trans rfl)
def GridAt (A : Ad) (H : Hp) (g : Addr) (F : Fd) : Prop := ∃ dx, H g = some (.ins A.c_Grid dx (gF F))
theorem GridAt.same {A : Ad} {H H' : Hp} {g : Addr} {F : Fd} (h : GridAt A H g F) (s : Same H H') : GridAt A H' g F := by
  obtain ⟨dx, e⟩ := h
  exact ⟨dx, s _ _ e⟩
/-- a measurement, a tuple at t -/
def MAt (H : Hp) (v : V) (p : Nat × Nat) : Prop := ∃ t, v = .ref t ∧ H t = some (.tup [.int (p.1 : Int), .int (p.2 : Int)])
def Tups (H : Hp) : List V → List (Nat × Nat) → Prop
  | [], [] => True
  | x :: xs, p :: ps => MAt H x p ∧ Tups H xs ps
  | _, _ => False
theorem Tups.same {H H' : Hp} (s : Same H H') : ∀ {xs : List V} {ps : List (Nat × Nat)}, Tups H xs ps → Tups H' xs ps
  | [], [], _ => trivial
  | _ :: _, _ :: _, ⟨⟨t, e, h⟩, r⟩ => ⟨⟨t, e, s _ _ h⟩, r.same s⟩
  | [], _ :: _, h => h.elim
  | _ :: _, [], h => h.elim
theorem Tups.len {H : Hp} : ∀ {xs : List V} {ps : List (Nat × Nat)}, Tups H xs ps → xs.length = ps.length
  | [], [], _ => rfl
  | _ :: _, _ :: _, ⟨_, r⟩ => by rw [List.length_cons, List.length_cons, r.len]
  | [], _ :: _, h => h.elim
  | _ :: _, [], h => h.elim
theorem Tups.app {H : Hp} {ys : List V} {qs : List (Nat × Nat)} (h2 : Tups H ys qs) : ∀ {xs : List V} {ps : List (Nat × Nat)}, Tups H xs ps → Tups H (xs ++ ys) (ps ++ qs)
  | [], [], _ => h2
  | _ :: _, _ :: _, ⟨m, r⟩ => ⟨m, h2.app r⟩
  | [], _ :: _, h => h.elim
  | _ :: _, [], h => h.elim
/-- the pairs of a list's value and what it stands for -/
theorem Tups.zip {H : Hp} : ∀ {xs : List V} {ps : List (Nat × Nat)}, Tups H xs ps → (xs.zip ps).map Prod.fst = xs ∧ (xs.zip ps).map Prod.snd = ps ∧ ∀ y ∈ xs.zip ps, MAt H y.1 y.2
  | [], [], _ => ⟨rfl, rfl, fun _ h => nomatch h⟩
  | x :: xs, p :: ps, ⟨m, r⟩ => by
    obtain ⟨h1, h2, h3⟩ := r.zip
    refine ⟨?_, ?_, fun y hy => ?_⟩
    · show x :: (xs.zip ps).map Prod.fst = x :: xs
      rw [h1]
    · show p :: (xs.zip ps).map Prod.snd = p :: ps
      rw [h2]
    · rcases List.mem_cons.mp hy with e | e
      · rw [e]; exact m
      · exact h3 y e
  | [], _ :: _, h => h.elim
  | _ :: _, [], h => h.elim
theorem Tups.of {H : Hp} : ∀ {l : List (V × (Nat × Nat))}, (∀ y ∈ l, MAt H y.1 y.2) → Tups H (l.map Prod.fst) (l.map Prod.snd)
  | [], _ => trivial
  | _ :: _, h => ⟨h _ List.mem_cons_self, Tups.of fun y hy => h y (List.mem_cons_of_mem _ hy)⟩
def MsAt (H : Hp) (m : Addr) (ms : List (Nat × Nat)) : Prop := ∃ xs, H m = some (.lst xs) ∧ Tups H xs ms
theorem MsAt.same {H H' : Hp} {m : Addr} {ms : List (Nat × Nat)} (h : MsAt H m ms) (s : Same H H') : MsAt H' m ms := by
  obtain ⟨xs, e, t⟩ := h
  exact ⟨xs, s _ _ e, t.same s⟩
def iF (F : Fd) (g m : Addr) : List (Str × V) := [("grid", .ref g), ("step", .int (F.maxStep : Int)), ("measurements", .ref m)]
theorem iF_g (F : Fd) (g m : Addr) : (iF F g m).lookup ("grid" : Str) = some (.ref g) := look_at
theorem iF_s (F : Fd) (g m : Addr) : (iF F g m).lookup ("step" : Str) = some (.int (F.maxStep : Int)) := (look_on (by decide +kernel)).trans look_at
theorem iF_m (F : Fd) (g m : Addr) : (iF F g m).lookup ("measurements" : Str) = some (.ref m) := (look_on (by decide +kernel)).trans ((look_on (by decide +kernel)).trans look_at)
theorem iF_no (F : Fd) (g m : Addr) {x : Str} (h : ((x == ("grid" : Str)) || (x == ("step" : Str)) || (x == ("measurements" : Str))) = false) : (iF F g m).lookup x = none := by
  rw [Bool.or_eq_false_iff, Bool.or_eq_false_iff] at h
  exact (look_on h.1.1).trans ((look_on h.1.2).trans ((look_on h.2).trans rfl))
def InstAt (A : Ad) (H : Hp) (i : Addr) (F : Fd) : Prop := ∃ dx g m, H i = some (.ins A.c_Instance dx (iF F g m)) ∧ GridAt A H g F ∧ MsAt H m F.measurements
theorem InstAt.same {A : Ad} {H H' : Hp} {i : Addr} {F : Fd} (h : InstAt A H i F) (s : Same H H') : InstAt A H' i F := by
  obtain ⟨dx, g, m, e, hg, hm⟩ := h
  exact ⟨dx, g, m, s _ _ e, hg.same s, hm.same s⟩
theorem Same.new {H : Hp} {p : Addr} {o : HO} (h : H p = none) : Same H (upd H p o) := fun b o' e => by
  rw [upd_ne (ne_of_none e h)]
  exact e
theorem Same.later {H H' : Hp} {p : Addr} {o : HO} (s : Same H H') (h : H p = none) : Same H (upd H' p o) := fun b o' e => by
  rw [upd_ne (ne_of_none e h)]
  exact s b o' e
def nts (l : List Nat) : List V := (Km563.toInts l).map V.int
theorem nts_len (l : List Nat) : (nts l).length = l.length := by
  unfold nts Km563.toInts
  rw [List.length_map, List.length_map]
theorem nts_map (l : List Nat) : nts l = l.map fun (n : Nat) => V.int ((n : Nat) : Int) := by
  unfold nts Km563.toInts
  rw [List.map_map]
  rfl
theorem nts_get {l : List Nat} {i : Nat} {v : V} (h : (nts l)[i]? = some v) : ∃ n, l[i]? = some n ∧ v = V.int (n : Int) := by
  rw [nts_map, List.getElem?_map] at h
  cases e : l[i]? with
  | none => rw [e] at h; cases h
  | some n => rw [e] at h; exact ⟨n, rfl, (Option.some.inj h).symm⟩
theorem sz {n : Nat} (h : n ≤ 100000) : n ≤ sizeLine := Nat.le_trans h (by decide)
theorem szl {n : Nat} (h : n ≤ 100000) : n < sizeLine := Nat.lt_of_le_of_lt h (by decide)
/-! ### a comprehension over a list whose steps leave all that was tracked as it was -/
/-- what a comprehension asks behind its list: a the list, D the new one -/
def LcAsks (K : PySem.W.Frag) (a : Addr) (g : TG) (tt : TT) (te : TE) (vs : List Nat) (σ : L2.St) (H1 : Hp) (D : Addr) (Qd : Hp → Prop) : Prop :=
  ∃ W : Nat → Nat → Hp → Prop, (∃ m, W 0 m (upd H1 D (.lst []))) ∧
    ∀ i m H, W i m H →
      ((Itl K a).stop i H ∧ Qd H) ∨
        ((Itl K a).go i H ∧
          ∃ Nx : Hp → Prop,
            (∀ H', Nx H' → ∃ m', m' < m ∧ W (i + 1) m' H') ∧
              ∀ x H', (Itl K a).yld i H x H' →
                g x (wipe σ vs) H' fun σ2 H2 =>
                  wipe σ2 vs = wipe σ vs ∧
                    tt σ2 H2 fun b H3 =>
                      if b = true then te σ2 H3 fun y H4 => ∃ acc, H4 D = some (.lst acc) ∧ acc.length < sizeLine ∧ Nx (upd H4 D (.lst (acc ++ [y])))
                      else Nx H3)
theorem lc_its {α : Type} {K : PySem.W.Frag} {a : Addr} {g : TG} {tt : TT} {te : TE} {vs : List Nat} {σ : L2.St} {H1 : Hp} {D : Addr} {Qd : Hp → Prop}
    (its : List α) (toV : α → V) (b : α → Bool) (f : α → V) (s2 : α → L2.St)
    (hn : H1 D = none) (hx : SqL K H1 a (its.map toV)) (hz : its.length ≤ 100000)
    (hs : ∀ y, y ∈ its → ∀ H, Same H1 H → (∀ Kg : L2.St → Hp → Prop, Kg (s2 y) H → g (toV y) (wipe σ vs) H Kg) ∧ wipe (s2 y) vs = wipe σ vs ∧
      (∀ Kb : Bool → Hp → Prop, (∀ H4, Same H H4 → Kb (b y) H4) → tt (s2 y) H Kb))
    (he : ∀ y, y ∈ its → b y = true → ∀ H, Same H1 H → ∀ Kq : VK, (∀ H4, Same H H4 → Kq (f y) H4) → te (s2 y) H Kq)
    (hd : ∀ H, Same H1 H → H D = some (.lst ((its.filter b).map f)) → Qd H) : LcAsks K a g tt te vs σ H1 D Qd := by
  refine lc_list (K := K) (a := a) (xs := its.map toV) (fun i H => Same H1 H ∧ H D = some (.lst (((its.take i).filter b).map f))) ⟨Same.new hn, upd_same⟩ (fun i H _ p => p.1.seq hx) ?_ ?_
  · rintro i x H hi ⟨s, hD⟩
    rw [List.getElem?_map] at hi
    cases e : its[i]? with
    | none => rw [e] at hi; cases hi
    | some y =>
      rw [e] at hi
      cases hi
      have hy : y ∈ its := List.mem_of_getElem? e
      have hil : i < its.length := (List.getElem?_eq_some_iff.mp e).1
      have tk : its.take (i + 1) = its.take i ++ [y] := by
        rw [List.take_add_one, e]
        rfl
      obtain ⟨hg, hw, ht⟩ := hs y hy H s
      refine hg _ ⟨hw, ht _ fun H4 s4 => ?_⟩
      by_cases hb : b y = true
      · rw [if_pos hb]
        refine he y hy hb H4 (s.trans s4) _ fun H5 s5 => ?_
        refine ⟨_, s5 _ _ (s4 _ _ hD), ?_, ?_, ?_⟩
        · have h1 : ((its.take i).filter b).length ≤ i := Nat.le_trans (List.length_filter_le _ _) (by rw [List.length_take]; omega)
          rw [List.length_map]
          exact szl (by omega)
        · exact Same.later ((s.trans s4).trans s5) hn
        · rw [upd_same, tk, List.filter_append, List.filter_cons, if_pos hb, List.filter_nil, List.map_append]
          rfl
      · rw [if_neg hb]
        refine ⟨s.trans s4, ?_⟩
        rw [tk, List.filter_append, List.filter_cons, if_neg hb, List.filter_nil, List.append_nil]
        exact s4 _ _ hD
  · rintro H ⟨s, hD⟩
    rw [List.length_map, List.take_length] at hD
    exact hd H s hD
/-- without a test -/
theorem lc_all {α : Type} {K : PySem.W.Frag} {a : Addr} {g : TG} {te : TE} {vs : List Nat} {σ : L2.St} {H1 : Hp} {D : Addr} {Qd : Hp → Prop}
    (its : List α) (toV : α → V) (f : α → V) (s2 : α → L2.St)
    (hn : H1 D = none) (hx : SqL K H1 a (its.map toV)) (hz : its.length ≤ 100000)
    (hs : ∀ y, y ∈ its → ∀ H, Same H1 H → (∀ Kg : L2.St → Hp → Prop, Kg (s2 y) H → g (toV y) (wipe σ vs) H Kg) ∧ wipe (s2 y) vs = wipe σ vs)
    (he : ∀ y, y ∈ its → ∀ H, Same H1 H → ∀ Kq : VK, (∀ H4, Same H H4 → Kq (f y) H4) → te (s2 y) H Kq)
    (hd : ∀ H, Same H1 H → H D = some (.lst (its.map f)) → Qd H) : LcAsks K a g tYes te vs σ H1 D Qd :=
  lc_its its toV (fun _ => true) f s2 hn hx hz (fun y hy H s => ⟨(hs y hy H s).1, (hs y hy H s).2, fun Kb h => h H (Same.refl H)⟩) (fun y hy _ => he y hy)
    fun H s hD => hd H s (by rw [List.filter_eq_self.mpr fun _ _ => rfl] at hD; exact hD)
end IceW
set_option linter.all false
set_option maxRecDepth 100000
set_option maxHeartbeats 2000000
/-! The walk, part 1: the grid's methods. -/
namespace IceW
open PySem PySem.Spec PyProof.Rows L2
/-- what was tracked stands, the value is v -/
def Pure (H : Hp) (Q : VK) (v : V) : Prop := ∀ H', Same H H' → Q v H'
/-- a list of these is handed over -/
def New (H : Hp) (Q : VK) (l : List V) : Prop := ∀ p H', Same H H' → H' p = some (.lst l) → Q (.ref p) H'
theorem mul_ok {F : Fd} (h : IceM.Sized F) (j : Int) : CMul (F.columns : Int) j := .inl ⟨by have := h.c5; omega, by have := h.c5; omega⟩
theorem cols_pos {F : Fd} (h : IceM.Sized F) : (0 : Int) < (F.columns : Int) := by have := h.c1; omega
theorem dec_cell (n c r : Nat) : decide ((n : Int) < (c : Int) * (r : Int)) = decide (n < c * r) := by
  rw [← Int.natCast_mul]
  exact decide_eq_decide.mpr Int.ofNat_lt
theorem rgV_nat (a b : Nat) : rgV (a : Int) (b : Int) = nts ((List.range (b - a)).map fun i => a + i) := by
  unfold rgV
  rw [nts_map, List.map_map, show ((b : Int) - (a : Int)).toNat = b - a by omega]
  refine List.map_congr_left fun i _ => ?_
  show V.int ((a : Int) + (i : Int)) = V.int (((a + i : Nat)) : Int)
  rw [Int.natCast_add]
theorem rgV_zero (b : Nat) : rgV 0 (b : Int) = nts (List.range b) := by
  have h := rgV_nat 0 b
  rw [Nat.sub_zero] at h
  have e : ((List.range b).map fun i => 0 + i) = List.range b := by
    conv => rhs; rw [← List.map_id (List.range b)]
    exact List.map_congr_left fun i _ => Nat.zero_add i
  rw [e] at h
  exact h
theorem ite_app {b : Bool} {B : Prop} {R : Hp → Prop} {H : Hp} {p : Addr} {l : List V} {x : V} (hH : H p = some (.lst l)) (happ : R (upd H p (.lst (l ++ [x]))) → B)
    (k : ∀ H', H' p = some (.lst (l ++ if b = true then [x] else [])) → (∀ c o, H c = some o → c ≠ p → H' c = some o) → R H') : if b = true then B else R H := by
  cases b with
  | true => exact iteT (happ (k _ upd_same fun c o e hc => by rw [upd_ne hc]; exact e))
  | false => exact iteF (k _ (by rw [hH, if_neg Bool.false_ne_true, List.append_nil]) fun _ _ e _ => e)
section
variable {P : Program} {w : World} {K : PySem.W.Frag} {mg : Str → Option Value} {base : Heap} {A : Ad}
def sp_g_init (A : Ad) : Sp := fun vs H Q _ => ∃ (p dx : Addr) (F : Fd), vs = [.ref p, .int (F.columns : Int), .int (F.rows : Int)] ∧ H p = some (.ins A.c_Grid dx []) ∧
  ∀ H', GridAt A H' p F → (∀ b o, H b = some o → b ≠ p → H' b = some o) → Q .non H'
theorem ok_g_init (T : Txt K mg A) : FnOk P w K mg base CX0 1 A.g_init.a A.g_init.d ["self", "columns", "rows"] (sp_g_init A) := by
  refine T.f_g_init.ok sc_g_init (fun vs H Q E h => ?_) (fun cdv Ar outer s H vs Q E hr h => ?_)
  · obtain ⟨p, dx, F, rfl, _⟩ := h
    rfl
  · obtain ⟨p, dx, F, rfl, hp, k⟩ := h
    refine ⟨_, (pss_cons (ps_fld (pv 0) (pv 1) rfl)
      (pss_one (ps_fld (pv 0) (pv 2) rfl))), ?_⟩
    refine ⟨_, rfl, _, rfl, p, _, dx, _, rfl, hp, T.cl_Grid, T.n_Grid_columns, (by show 0 < 1000; decide), ?_⟩
    refine ⟨_, rfl, _, rfl, p, _, dx, _, rfl, upd_same, T.cl_Grid, T.n_Grid_rows, (by show 1 < 1000; decide), ?_⟩
    refine k _ ⟨dx, ?_⟩ fun b o e hb => by
      rw [upd_ne hb, upd_ne hb]
      exact e
    rw [upd_same]
    refine congrArg (fun q => some (HO.ins A.c_Grid dx q)) ?_
    exact (put_on (by decide +kernel)).trans rfl
def sp_g_cell_count (A : Ad) : Sp := fun vs H Q _ => ∃ (g : Addr) (F : Fd), vs = [.ref g] ∧ GridAt A H g F ∧ IceM.Sized F ∧ Q (.int (Km563.cellCount F : Int)) H
theorem ok_g_cell_count (T : Txt K mg A) : FnOk P w K mg base CX0 1 A.g_cell_count.a A.g_cell_count.d ["self"] (sp_g_cell_count A) := by
  refine T.f_g_cell_count.ok sc_g_cell_count (fun vs H Q E h => ?_) (fun cdv Ar outer s H vs Q E hr h => ?_)
  · obtain ⟨g, F, rfl, _⟩ := h
    rfl
  · obtain ⟨g, F, rfl, ⟨dg, hg⟩, hs, k⟩ := h
    refine ⟨_, (pss_one (ps_ret (pe_op op_mul (pe_fld (pv 0) rfl) (pe_fld (pv 0) rfl)))), ?_⟩
    refine ⟨_, rfl, g, _, dg, _, _, rfl, hg, T.cl_Grid, T.n_Grid_columns, gF_c F, _, rfl, g, _, dg, _, _, rfl, hg, T.cl_Grid, T.n_Grid_rows, gF_r F, _, _, rfl, rfl, mul_ok hs _, ?_⟩
    dsimp only
    rw [← Int.natCast_mul]
    exact k
def sp_g_cells (A : Ad) : Sp := fun vs H Q _ => ∃ (g : Addr) (F : Fd), vs = [.ref g] ∧ GridAt A H g F ∧ IceM.Sized F ∧ New H Q (nts (List.range (Km563.cellCount F)))
theorem ok_g_cells (T : Txt K mg A) : FnOk P w K mg base CX0 1 A.g_cells.a A.g_cells.d ["self"] (sp_g_cells A) := by
  refine T.f_g_cells.ok sc_g_cells (fun vs H Q E h => ?_) (fun cdv Ar outer s H vs Q E hr h => ?_)
  · obtain ⟨g, F, rfl, _⟩ := h
    rfl
  · obtain ⟨g, F, rfl, ⟨dg, hg⟩, hs, k⟩ := h
    refine ⟨_, (pss_one (ps_ret (pe_listRg rfl (by rfl) T.n_list (prg_1 (by rfl) T.n_range (pe_op op_mul (pe_fld (pv 0) rfl) (pe_fld (pv 0) rfl)))))), ?_⟩
    refine ⟨_, rfl, g, _, dg, _, _, rfl, hg, T.cl_Grid, T.n_Grid_columns, gF_c F, _, rfl, g, _, dg, _, _, rfl, hg, T.cl_Grid, T.n_Grid_rows, gF_r F, _, _, rfl, rfl, mul_ok hs _, _, rfl, ?_⟩
    rw [← Int.natCast_mul]
    have hc := IceM.cc_le hs
    refine ⟨⟨by decide, by decide, by omega, by omega, by omega⟩, fun q hq => ?_⟩
    rw [rgV_zero]
    exact k q _ (Same.new hq) upd_same
def sp_g_has_cell (A : Ad) : Sp := fun vs H Q _ => ∃ (g : Addr) (F : Fd) (n : Nat), vs = [.ref g, .int (n : Int)] ∧ GridAt A H g F ∧ IceM.Sized F ∧ Q (.bl (decide (n < Km563.cellCount F))) H
theorem ok_g_has_cell (T : Txt K mg A) : FnOk P w K mg base CX0 1 A.g_has_cell.a A.g_has_cell.d ["self", "cell"] (sp_g_has_cell A) := by
  refine T.f_g_has_cell.ok sc_g_has_cell (fun vs H Q E h => ?_) (fun cdv Ar outer s H vs Q E hr h => ?_)
  · obtain ⟨g, F, n, rfl, _⟩ := h
    rfl
  · obtain ⟨g, F, n, rfl, ⟨dg, hg⟩, hs, k⟩ := h
    refine ⟨_, (pss_one (ps_ret (pe_cmpR op_lt (pv 1) (pe_op op_mul (pe_fld (pv 0) rfl) (pe_fld (pv 0) rfl)) (nomark _)))), ?_⟩
    refine ⟨_, rfl, _, rfl, g, _, dg, _, _, rfl, hg, T.cl_Grid, T.n_Grid_columns, gF_c F, _, rfl, g, _, dg, _, _, rfl, hg, T.cl_Grid, T.n_Grid_rows, gF_r F, _, _, rfl, rfl, mul_ok hs _, _, _, rfl, rfl, ?_⟩
    dsimp only
    rw [dec_cell]
    exact k
def sp_g_column_of (A : Ad) : Sp := fun vs H Q _ => ∃ (g : Addr) (F : Fd) (n : Nat), vs = [.ref g, .int (n : Int)] ∧ GridAt A H g F ∧ IceM.Sized F ∧ Q (.int ((n % F.columns : Nat) : Int)) H
theorem ok_g_column_of (T : Txt K mg A) : FnOk P w K mg base CX0 1 A.g_column_of.a A.g_column_of.d ["self", "cell"] (sp_g_column_of A) := by
  refine T.f_g_column_of.ok sc_g_column_of (fun vs H Q E h => ?_) (fun cdv Ar outer s H vs Q E hr h => ?_)
  · obtain ⟨g, F, n, rfl, _⟩ := h
    rfl
  · obtain ⟨g, F, n, rfl, ⟨dg, hg⟩, hs, k⟩ := h
    refine ⟨_, (pss_one (ps_ret (pe_op op_mod (pv 1) (pe_fld (pv 0) rfl)))), ?_⟩
    refine ⟨_, rfl, _, rfl, g, _, dg, _, _, rfl, hg, T.cl_Grid, T.n_Grid_columns, gF_c F, _, _, rfl, rfl, cols_pos hs, ?_⟩
    dsimp only
    rw [← Int.natCast_emod]
    exact k
def sp_g_row_of (A : Ad) : Sp := fun vs H Q _ => ∃ (g : Addr) (F : Fd) (n : Nat), vs = [.ref g, .int (n : Int)] ∧ GridAt A H g F ∧ IceM.Sized F ∧ Q (.int ((n / F.columns : Nat) : Int)) H
theorem ok_g_row_of (T : Txt K mg A) : FnOk P w K mg base CX0 1 A.g_row_of.a A.g_row_of.d ["self", "cell"] (sp_g_row_of A) := by
  refine T.f_g_row_of.ok sc_g_row_of (fun vs H Q E h => ?_) (fun cdv Ar outer s H vs Q E hr h => ?_)
  · obtain ⟨g, F, n, rfl, _⟩ := h
    rfl
  · obtain ⟨g, F, n, rfl, ⟨dg, hg⟩, hs, k⟩ := h
    refine ⟨_, (pss_one (ps_ret (pe_op op_fdiv (pv 1) (pe_fld (pv 0) rfl)))), ?_⟩
    refine ⟨_, rfl, _, rfl, g, _, dg, _, _, rfl, hg, T.cl_Grid, T.n_Grid_columns, gF_c F, _, _, rfl, rfl, ⟨cols_pos hs, by have := hs.c5; omega⟩, ?_⟩
    dsimp only
    rw [← Int.natCast_ediv]
    exact k
def sp_g_distance (A : Ad) : Sp := fun vs H Q _ => ∃ (g : Addr) (F : Fd) (p q : Nat), vs = [.ref g, .int (p : Int), .int (q : Int)] ∧ GridAt A H g F ∧ IceM.Sized F ∧ Q (.int (Km563.cellDistance F p q : Int)) H
theorem ok_g_distance (T : Txt K mg A) : FnOk P w K mg base CX0 2 A.g_distance.a A.g_distance.d ["self", "one", "other"] (sp_g_distance A) := by
  refine T.f_g_distance.ok sc_g_distance (fun vs H Q E h => ?_) (fun cdv Ar outer s H vs Q E hr h => ?_)
  · obtain ⟨g, F, p, q, rfl, _⟩ := h
    rfl
  · obtain ⟨g, F, p, q, rfl, ⟨dg, hg⟩, hs, k⟩ := h
    refine ⟨_, (pss_cons (ps_set (i := 3) sc_g_distance.nd rfl (Or.inl rfl) (pe_callB call_abs (by rfl) T.n_abs (by decide +kernel) (pa_cons (pe_op op_sub (pe_meth (pv 0) T.cl_Grid T.m_g_column_of (ok_g_column_of T) (hr.mono (by decide)) T.b_g_column_of .nil pass0 (pa_cons (pv 1) pa_nil)) (pe_meth (pv 0) T.cl_Grid T.m_g_column_of (ok_g_column_of T) (hr.mono (by decide)) T.b_g_column_of .nil pass0 (pa_cons (pv 2) pa_nil))) pa_nil)))
      (pss_one (ps_ret (pe_op op_add (pv 3) (pe_callB call_abs (by rfl) T.n_abs (by decide +kernel) (pa_cons (pe_op op_sub (pe_meth (pv 0) T.cl_Grid T.m_g_row_of (ok_g_row_of T) (hr.mono (by decide)) T.b_g_row_of .nil pass0 (pa_cons (pv 1) pa_nil)) (pe_meth (pv 0) T.cl_Grid T.m_g_row_of (ok_g_row_of T) (hr.mono (by decide)) T.b_g_row_of .nil pass0 (pa_cons (pv 2) pa_nil))) pa_nil)))))), ?_⟩
    refine ⟨_, rfl, g, dg, _, rfl, hg, gF_no F (by decide +kernel) (by decide +kernel), _, rfl, g, F, p, rfl, ⟨dg, hg⟩, hs, _, rfl, g, dg, _, rfl, hg, gF_no F (by decide +kernel) (by decide +kernel), _, rfl, g, F, q, rfl, ⟨dg, hg⟩, hs, _, _, rfl, rfl, _, rfl, ?_⟩
    refine ⟨_, rfl, _, rfl, g, dg, _, rfl, hg, gF_no F (by decide +kernel) (by decide +kernel), _, rfl, g, F, p, rfl, ⟨dg, hg⟩, hs, _, rfl, g, dg, _, rfl, hg, gF_no F (by decide +kernel) (by decide +kernel), _, rfl, g, F, q, rfl, ⟨dg, hg⟩, hs, _, _, rfl, rfl, _, rfl, _, _, rfl, rfl, ?_⟩
    dsimp only
    rw [IceM.diff_int, IceM.diff_int, ← Int.natCast_add]
    exact k
def sp_g_neighbours (A : Ad) : Sp := fun vs H Q _ => ∃ (g : Addr) (F : Fd) (n : Nat), vs = [.ref g, .int (n : Int)] ∧ GridAt A H g F ∧ IceM.Sized F ∧ New H Q (nts (Km563.neighbours F n))
theorem ok_g_neighbours (T : Txt K mg A) : FnOk P w K mg base CX0 2 A.g_neighbours.a A.g_neighbours.d ["self", "cell"] (sp_g_neighbours A) := by
  refine T.f_g_neighbours.ok sc_g_neighbours (fun vs H Q E h => ?_) (fun cdv Ar outer s H vs Q E hr h => ?_)
  · obtain ⟨g, F, n, rfl, _⟩ := h
    rfl
  · obtain ⟨g, F, n, rfl, ⟨dg, hg⟩, hs, k⟩ := h
    refine ⟨_, (pss_cons (ps_set (i := 2) sc_g_neighbours.nd rfl (Or.inl rfl) (pe_lst pa_nil))
      (pss_cons (ps_if (pt_cmpR op_gt (pe_meth (pv 0) T.cl_Grid T.m_g_row_of (ok_g_row_of T) (hr.mono (by decide)) T.b_g_row_of .nil pass0 (pa_cons (pv 1) pa_nil)) pe_int (nomark _)) (pss_one (ps_expr (pe_bm PySem.F.plainAttrs_list PySem.F.slot_list_append PySem.F.type_list_append mt_append (pv 2) (pa_cons (pe_op op_sub (pv 1) (pe_fld (pv 0) rfl)) pa_nil)))) pss_nil)
      (pss_cons (ps_if (pt_cmpR op_gt (pe_meth (pv 0) T.cl_Grid T.m_g_column_of (ok_g_column_of T) (hr.mono (by decide)) T.b_g_column_of .nil pass0 (pa_cons (pv 1) pa_nil)) pe_int (nomark _)) (pss_one (ps_expr (pe_bm PySem.F.plainAttrs_list PySem.F.slot_list_append PySem.F.type_list_append mt_append (pv 2) (pa_cons (pe_op op_sub (pv 1) pe_int) pa_nil)))) pss_nil)
      (pss_cons (ps_if (pt_cmpR op_lt (pe_meth (pv 0) T.cl_Grid T.m_g_column_of (ok_g_column_of T) (hr.mono (by decide)) T.b_g_column_of .nil pass0 (pa_cons (pv 1) pa_nil)) (pe_op op_sub (pe_fld (pv 0) rfl) pe_int) (nomark _)) (pss_one (ps_expr (pe_bm PySem.F.plainAttrs_list PySem.F.slot_list_append PySem.F.type_list_append mt_append (pv 2) (pa_cons (pe_op op_add (pv 1) pe_int) pa_nil)))) pss_nil)
      (pss_cons (ps_if (pt_cmpR op_lt (pe_meth (pv 0) T.cl_Grid T.m_g_row_of (ok_g_row_of T) (hr.mono (by decide)) T.b_g_row_of .nil pass0 (pa_cons (pv 1) pa_nil)) (pe_op op_sub (pe_fld (pv 0) rfl) pe_int) (nomark _)) (pss_one (ps_expr (pe_bm PySem.F.plainAttrs_list PySem.F.slot_list_append PySem.F.type_list_append mt_append (pv 2) (pa_cons (pe_op op_add (pv 1) (pe_fld (pv 0) rfl)) pa_nil)))) pss_nil)
      (pss_one (ps_ret (pv 2)))))))), ?_⟩
    refine ⟨Nat.zero_le _, fun p hp => ?_⟩
    have hpg : g ≠ p := ne_of_none hg hp
    have g0 := Same.new (o := .lst []) hp
    have l0 : upd H p (.lst []) p = some (.lst []) := upd_same
    generalize upd H p (.lst []) = H0 at g0 l0 ⊢
    have hg0 := g0 _ _ hg
    refine ⟨_, rfl, g, dg, _, rfl, hg0, gF_no F (by decide +kernel) (by decide +kernel), _, rfl, g, F, n, rfl, ⟨dg, hg0⟩, hs, _, _, rfl, rfl, _, rfl, ?_⟩
    refine ite_app (x := .int ((n : Int) - (F.columns : Int))) l0 (fun r => ⟨_, rfl, .inl ⟨rfl, _, SqL.of l0⟩, _, rfl, _, rfl, g, _, dg, _, _, rfl, hg0, T.cl_Grid, T.n_Grid_columns, gF_c F, _, _, rfl, rfl, p, _, _, rfl, rfl, l0, szl (by simp), r⟩) fun H1 l1 k1 => ?_
    have s1 : Same H H1 := fun b o e => k1 b o (g0 b o e) (ne_of_none e hp)
    have hg1 := s1 _ _ hg
    refine ⟨_, rfl, g, dg, _, rfl, hg1, gF_no F (by decide +kernel) (by decide +kernel), _, rfl, g, F, n, rfl, ⟨dg, hg1⟩, hs, _, _, rfl, rfl, _, rfl, ?_⟩
    refine ite_app (x := .int ((n : Int) - 1)) l1 (fun r => ⟨_, rfl, .inl ⟨rfl, _, SqL.of l1⟩, _, rfl, _, _, rfl, rfl, p, _, _, rfl, rfl, l1, szl (by split <;> simp), r⟩) fun H2 l2 k2 => ?_
    have s2 : Same H H2 := fun b o e => k2 b o (s1 b o e) (ne_of_none e hp)
    have hg2 := s2 _ _ hg
    refine ⟨_, rfl, g, dg, _, rfl, hg2, gF_no F (by decide +kernel) (by decide +kernel), _, rfl, g, F, n, rfl, ⟨dg, hg2⟩, hs, _, rfl, g, _, dg, _, _, rfl, hg2, T.cl_Grid, T.n_Grid_columns, gF_c F, _, _, rfl, rfl, _, _, rfl, rfl, _, rfl, ?_⟩
    refine ite_app (x := .int ((n : Int) + 1)) l2 (fun r => ⟨_, rfl, .inl ⟨rfl, _, SqL.of l2⟩, _, rfl, _, _, rfl, rfl, p, _, _, rfl, rfl, l2, szl (by split <;> split <;> simp), r⟩) fun H3 l3 k3 => ?_
    have s3 : Same H H3 := fun b o e => k3 b o (s2 b o e) (ne_of_none e hp)
    have hg3 := s3 _ _ hg
    refine ⟨_, rfl, g, dg, _, rfl, hg3, gF_no F (by decide +kernel) (by decide +kernel), _, rfl, g, F, n, rfl, ⟨dg, hg3⟩, hs, _, rfl, g, _, dg, _, _, rfl, hg3, T.cl_Grid, T.n_Grid_rows, gF_r F, _, _, rfl, rfl, _, _, rfl, rfl, _, rfl, ?_⟩
    refine ite_app (x := .int ((n : Int) + (F.columns : Int))) l3 (fun r => ⟨_, rfl, .inl ⟨rfl, _, SqL.of l3⟩, _, rfl, _, rfl, g, _, dg, _, _, rfl, hg3, T.cl_Grid, T.n_Grid_columns, gF_c F, _, _, rfl, rfl, p, _, _, rfl, rfl, l3, szl (by split <;> split <;> split <;> simp), r⟩) fun H4 l4 k4 => ?_
    have s4 : Same H H4 := fun b o e => k4 b o (s3 b o e) (ne_of_none e hp)
    refine ⟨_, rfl, ?_⟩
    refine k p H4 s4 (l4.trans (congrArg (fun z => some (HO.lst z)) ?_))
    have hc := hs.c1
    rw [IceM.nb_is hs]
    have e1 : (if decide ((0 : Int) < ((n / F.columns : Nat) : Int)) = true then [V.int ((n : Int) - (F.columns : Int))] else []) = nts (if 0 < n / F.columns then [n - F.columns] else []) := by
      by_cases q : 0 < n / F.columns
      · have := (IceM.div_pos_iff hc).mp q
        rw [if_pos (decide_eq_true (by omega)), if_pos q]
        show [V.int _] = [V.int ((n - F.columns : Nat) : Int)]
        rw [Int.natCast_sub this]
      · rw [if_neg (by rw [decide_eq_true_eq]; omega), if_neg q]
        rfl
    have e2 : (if decide ((0 : Int) < ((n % F.columns : Nat) : Int)) = true then [V.int ((n : Int) - 1)] else []) = nts (if 0 < n % F.columns then [n - 1] else []) := by
      by_cases q : 0 < n % F.columns
      · have : 1 ≤ n := Nat.le_trans q (Nat.mod_le _ _)
        rw [if_pos (decide_eq_true (by omega)), if_pos q]
        show [V.int _] = [V.int ((n - 1 : Nat) : Int)]
        rw [Int.natCast_sub this]
        rfl
      · rw [if_neg (by rw [decide_eq_true_eq]; omega), if_neg q]
        rfl
    have e3 : (if decide (((n % F.columns : Nat) : Int) < (F.columns : Int) - 1) = true then [V.int ((n : Int) + 1)] else []) = nts (if n % F.columns + 1 < F.columns then [n + 1] else []) := by
      by_cases q : n % F.columns + 1 < F.columns
      · rw [if_pos (decide_eq_true (by omega)), if_pos q]
        rfl
      · rw [if_neg (by rw [decide_eq_true_eq]; omega), if_neg q]
        rfl
    have e4 : (if decide (((n / F.columns : Nat) : Int) < (F.rows : Int) - 1) = true then [V.int ((n : Int) + (F.columns : Int))] else []) = nts (if n / F.columns + 1 < F.rows then [n + F.columns] else []) := by
      by_cases q : n / F.columns + 1 < F.rows
      · rw [if_pos (decide_eq_true (by omega)), if_pos q]
        rfl
      · rw [if_neg (by rw [decide_eq_true_eq]; omega), if_neg q]
        rfl
    rw [e1, e2, e3, e4]
    unfold nts Km563.toInts
    simp only [List.map_append, List.nil_append, List.append_assoc]
end
end IceW
set_option linter.all false
set_option maxRecDepth 100000
set_option maxHeartbeats 2000000
/-! The walk, part 2: the functions of bounds. -/
namespace IceW
open PySem PySem.Spec PyProof.Rows L2
theorem zip_map {β : Type} {xs : List V} {ms : List (Nat × Nat)} (z : (xs.zip ms).map Prod.snd = ms) (h : Nat × Nat → β) : ((xs.zip ms).map fun y => h y.2) = ms.map h := by
  conv => rhs; rw [← z]
  rw [List.map_map]
  rfl
theorem step_ok {F : Fd} (h : IceM.Sized F) (j : Int) : CMul (F.maxStep : Int) j := .inl ⟨by have := h.s20; omega, by have := h.s20; omega⟩
theorem all_bl (l : List (Nat × Nat)) (f : Nat × Nat → Bool) : ((l.map f).all id) = l.all f := by
  rw [List.all_map]
  rfl
theorem MAt.same {H H' : Hp} {v : V} {p : Nat × Nat} (h : MAt H v p) (s : Same H H') : MAt H' v p := by
  obtain ⟨t, e, q⟩ := h
  exact ⟨t, e, s _ _ q⟩
section
variable {P : Program} {w : World} {K : PySem.W.Frag} {mg : Str → Option Value} {base : Heap} {A : Ad}
def sp_is_consistent (A : Ad) : Sp := fun vs H Q _ => ∃ (g : Addr) (F : Fd) (v1 v2 : V) (p q : Nat × Nat), vs = [.ref g, .int (F.maxStep : Int), v1, v2] ∧ GridAt A H g F ∧ IceM.Sized F ∧ MAt H v1 p ∧ MAt H v2 q ∧ Q (.bl (Km563.areConsistent F p q)) H
theorem ok_is_consistent (T : Txt K mg A) : FnOk P w K mg base CX0 3 A.is_consistent.a A.is_consistent.d ["grid", "step", "one", "other"] (sp_is_consistent A) := by
  refine T.f_is_consistent.ok sc_is_consistent (fun vs H Q E h => ?_) (fun cdv Ar outer s H vs Q E hr h => ?_)
  · obtain ⟨g, F, v1, v2, p, q, rfl, _⟩ := h
    rfl
  · obtain ⟨g, F, v1, v2, p, q, rfl, ⟨dg, hg⟩, hs, ⟨t1, rfl, h1⟩, ⟨t2, rfl, h2⟩, k⟩ := h
    refine ⟨_, (pss_one (ps_ret (pe_cmpR op_le (pe_callB call_abs (by rfl) T.n_abs (by decide +kernel) (pa_cons (pe_op op_sub (pe_ix ix_tup (pv 2) pe_int (fun _ _ => rfl)) (pe_ix ix_tup (pv 3) pe_int (fun _ _ => rfl))) pa_nil)) (pe_op op_mul (pv 1) (pe_meth (pv 0) T.cl_Grid T.m_g_distance (ok_g_distance T) (hr.mono (by decide)) T.b_g_distance .nil pass0 (pa_cons (pe_ix ix_tup (pv 2) pe_int (fun _ _ => rfl)) (pa_cons (pe_ix ix_tup (pv 3) pe_int (fun _ _ => rfl)) pa_nil)))) (nomark _)))), ?_⟩
    refine ⟨_, rfl, t1, _, _, _, rfl, rfl, SqT.of h1, at_of (j := 1) rfl rfl, _, rfl, t2, _, _, _, rfl, rfl, SqT.of h2, at_of (j := 1) rfl rfl, _, _, rfl, rfl, _, rfl, _, rfl, _, rfl, g, dg, _, rfl, hg, gF_no F (by decide +kernel) (by decide +kernel),
      _, rfl, t1, _, _, _, rfl, rfl, SqT.of h1, at_of (j := 0) rfl rfl, _, rfl, t2, _, _, _, rfl, rfl, SqT.of h2, at_of (j := 0) rfl rfl, g, F, p.1, q.1, rfl, ⟨dg, hg⟩, hs, _, _, rfl, rfl, step_ok hs _, _, _, rfl, rfl, ?_⟩
    dsimp only
    rw [IceM.diff_int, ← Int.natCast_mul]
    have e : decide (((Km563.difference p.2 q.2 : Nat) : Int) ≤ ((F.maxStep * Km563.cellDistance F p.1 q.1 : Nat) : Int)) = Km563.areConsistent F p q := decide_eq_decide.mpr Int.ofNat_le
    rw [e]
    exact k
def sp_is_consistent_with (A : Ad) : Sp := fun vs H Q _ => ∃ (g : Addr) (F : Fd) (v : V) (p : Nat × Nat) (m : Addr) (ms : List (Nat × Nat)), vs = [.ref g, .int (F.maxStep : Int), v, .ref m] ∧ GridAt A H g F ∧ IceM.Sized F ∧ MAt H v p ∧ MsAt H m ms ∧ ms.length ≤ 100 ∧
  Pure H Q (.bl (ms.all fun o => Km563.areConsistent F p o))
theorem ok_is_consistent_with (T : Txt K mg A) : FnOk P w K mg base CX0 4 A.is_consistent_with.a A.is_consistent_with.d ["grid", "step", "measurement", "measurements"] (sp_is_consistent_with A) := by
  refine T.f_is_consistent_with.ok sc_is_consistent_with (fun vs H Q E h => ?_) (fun cdv Ar outer s H vs Q E hr h => ?_)
  · obtain ⟨g, F, v, p, m, ms, rfl, _⟩ := h
    rfl
  · obtain ⟨g, F, v, p, m, ms, rfl, hG, hs, hv, ⟨xs, hm, ht⟩, hl, k⟩ := h
    obtain ⟨z1, z2, z3⟩ := ht.zip
    refine ⟨_, (pss_one (ps_ret (pe_callB (cr_all rfl) (by rfl) T.n_all (by decide +kernel) (pa_cons (pe_lc (own := [("other", 4)]) (g := gName 4) rfl sc_is_consistent_with.nd (pi_list (pv 3)) (blkOk_by (own := [("other", 4)]) (N := ["grid", "step", "measurement", "measurements", "other"]) (sc := defScope s_is_consistent_with) (by decide +kernel)) (fun _ _ _ _ _ => pg_name (i := 4) sc_is_consistent_with.nd rfl (Or.inl rfl)) (fun _ _ _ _ _ => pts_nil) (fun _ _ _ _ _ => (pe_call (ok_is_consistent T) (hr.mono (by decide)) (by rfl) T.g_is_consistent T.f_is_consistent.kp T.b_is_consistent .nil pass0 (pa_cons (pv 0) (pa_cons (pv 1) (pa_cons (pv 2) (pa_cons (pv 4) pa_nil))))))) pa_nil)))), ?_⟩
    refine ⟨_, rfl, m, rfl, ⟨_, SqL.of hm⟩, fun D hD => lc_all (xs.zip ms) Prod.fst (fun y => .bl (Km563.areConsistent F p y.2)) (fun y => [some (.ref g), some (.int (F.maxStep : Int)), some v, some (.ref m), some y.1]) hD (by rw [z1]; exact SqL.of hm) ?_ (fun y hy H1 s1 => ⟨fun _ h => h, rfl⟩) ?_ ?_⟩
    · rw [List.length_zip, ht.len]
      omega
    · intro y hy H1 s1 Kq k1
      exact ⟨_, rfl, _, rfl, _, rfl, _, rfl, g, F, v, y.1, p, y.2, rfl, hG.same s1, hs, hv.same s1, (z3 y hy).same s1, k1 H1 (Same.refl H1)⟩
    · intro H1 s1 hD1
      refine ⟨D, ms.map fun o => Km563.areConsistent F p o, rfl, SqL.of (hD1.trans ?_), ?_⟩
      · rw [zip_map z2 (fun o => V.bl (Km563.areConsistent F p o)), List.map_map]
        rfl
      · rw [all_bl]
        exact k H1 s1
def sp_are_consistent (A : Ad) : Sp := fun vs H Q _ => ∃ (g : Addr) (F : Fd) (m : Addr), vs = [.ref g, .int (F.maxStep : Int), .ref m] ∧ GridAt A H g F ∧ IceM.Sized F ∧ MsAt H m F.measurements ∧ Pure H Q (.bl (Km563.isConsistent F))
theorem ok_are_consistent (T : Txt K mg A) : FnOk P w K mg base CX0 5 A.are_consistent.a A.are_consistent.d ["grid", "step", "measurements"] (sp_are_consistent A) := by
  refine T.f_are_consistent.ok sc_are_consistent (fun vs H Q E h => ?_) (fun cdv Ar outer s H vs Q E hr h => ?_)
  · obtain ⟨g, F, m, rfl, _⟩ := h
    rfl
  · obtain ⟨g, F, m, rfl, hG, hs, ⟨xs, hm, ht⟩, k⟩ := h
    obtain ⟨z1, z2, z3⟩ := ht.zip
    have hl := hs.len
    refine ⟨_, (pss_one (ps_ret (pe_callB (cr_all rfl) (by rfl) T.n_all (by decide +kernel) (pa_cons (pe_lc (own := [("one", 3)]) (g := gName 3) rfl sc_are_consistent.nd (pi_list (pv 2)) (blkOk_by (own := [("one", 3)]) (N := ["grid", "step", "measurements", "one"]) (sc := defScope s_are_consistent) (by decide +kernel)) (fun _ _ _ _ _ => pg_name (i := 3) sc_are_consistent.nd rfl (Or.inl rfl)) (fun _ _ _ _ _ => pts_nil) (fun _ _ _ _ _ => (pe_call (ok_is_consistent_with T) (hr.mono (by decide)) (by rfl) T.g_is_consistent_with T.f_is_consistent_with.kp T.b_is_consistent_with .nil pass0 (pa_cons (pv 0) (pa_cons (pv 1) (pa_cons (pv 3) (pa_cons (pv 2) pa_nil))))))) pa_nil)))), ?_⟩
    refine ⟨_, rfl, m, rfl, ⟨_, SqL.of hm⟩, fun D hD => lc_all (xs.zip F.measurements) Prod.fst (fun y => .bl (F.measurements.all fun o => Km563.areConsistent F y.2 o)) (fun y => [some (.ref g), some (.int (F.maxStep : Int)), some (.ref m), some y.1]) hD (by rw [z1]; exact SqL.of hm) ?_ (fun y hy H1 s1 => ⟨fun _ h => h, rfl⟩) ?_ ?_⟩
    · rw [List.length_zip, ht.len]
      omega
    · intro y hy H1 s1 Kq k1
      exact ⟨_, rfl, _, rfl, _, rfl, _, rfl, g, F, y.1, y.2, m, F.measurements, rfl, hG.same s1, hs, (z3 y hy).same s1, MsAt.same ⟨xs, hm, ht⟩ s1, by omega, k1⟩
    · intro H1 s1 hD1
      refine ⟨D, F.measurements.map fun a => F.measurements.all fun o => Km563.areConsistent F a o, rfl, SqL.of (hD1.trans ?_), ?_⟩
      · rw [zip_map z2 (fun a => V.bl (F.measurements.all fun o => Km563.areConsistent F a o)), List.map_map]
        rfl
      · rw [all_bl]
        exact k H1 s1
def sp_lower_at (A : Ad) : Sp := fun vs H Q _ => ∃ (g : Addr) (F : Fd) (m : Addr) (n : Nat), vs = [.ref g, .int (F.maxStep : Int), .ref m, .int (n : Int)] ∧ GridAt A H g F ∧ IceM.Sized F ∧ MsAt H m F.measurements ∧ Pure H Q (.int (Km563.lowerBound F n : Int))
theorem ok_lower_at (T : Txt K mg A) : FnOk P w K mg base CX0 3 A.lower_at.a A.lower_at.d ["grid", "step", "measurements", "cell"] (sp_lower_at A) := by
  refine T.f_lower_at.ok sc_lower_at (fun vs H Q E h => ?_) (fun cdv Ar outer s H vs Q E hr h => ?_)
  · obtain ⟨g, F, m, n, rfl, _⟩ := h
    rfl
  · obtain ⟨g, F, m, n, rfl, ⟨dg, hg⟩, hs, ⟨xs, hm, ht⟩, k⟩ := h
    obtain ⟨z1, z2, z3⟩ := ht.zip
    have hl := hs.len
    refine ⟨_, (pss_one (ps_ret (pe_callB (cr_max rfl) (by rfl) T.n_max (by decide +kernel) (pa_cons (pe_op op_cat (pe_lst (pa_cons pe_int pa_nil)) (pe_lc (own := [("place", 4), ("thickness", 5)]) (g := gTup K 2 (gCons (gName 4) (gCons (gName 5) gNil))) rfl sc_lower_at.nd (pi_list (pv 2)) (blkOk_by (own := [("place", 4), ("thickness", 5)]) (N := ["grid", "step", "measurements", "cell", "place", "thickness"]) (sc := defScope s_lower_at) (by decide +kernel)) (fun _ _ _ _ _ => pg_tup rfl (pgs_cons (pg_name (i := 4) sc_lower_at.nd rfl (Or.inl rfl)) (pgs_cons (pg_name (i := 5) sc_lower_at.nd rfl (Or.inl rfl)) pgs_nil))) (fun _ _ _ _ _ => pts_nil) (fun _ _ _ _ _ => (pe_op op_sub (pv 5) (pe_op op_mul (pv 1) (pe_meth (pv 0) T.cl_Grid T.m_g_distance (ok_g_distance T) (hr.mono (by decide)) T.b_g_distance .nil pass0 (pa_cons (pv 3) (pa_cons (pv 4) pa_nil)))))))) pa_nil)))), ?_⟩
    refine ⟨(by show 1 ≤ sizeLine; decide), fun p hp => ?_⟩
    have s0 : Same H (upd H p (.lst [.int 0])) := Same.new hp
    have l0 : upd H p (.lst [.int 0]) p = some (.lst [.int 0]) := upd_same
    generalize upd H p (.lst [.int 0]) = H0 at s0 l0 ⊢
    refine ⟨_, rfl, m, rfl, ⟨_, SqL.of (s0 _ _ hm)⟩, fun D hD => lc_all (xs.zip F.measurements) Prod.fst (fun y => .int ((y.2.2 : Int) - (F.maxStep : Int) * (Km563.cellDistance F n y.2.1 : Int)))
      (fun y => [some (.ref g), some (.int (F.maxStep : Int)), some (.ref m), some (.int (n : Int)), some (.int (y.2.1 : Int)), some (.int (y.2.2 : Int))]) hD (by rw [z1]; exact SqL.of (s0 _ _ hm)) ?_ (fun y hy H1 s1 => ⟨fun Kg h => ?_, rfl⟩) ?_ ?_⟩
    · rw [List.length_zip, ht.len]
      omega
    · obtain ⟨t, e, q⟩ := z3 y hy
      rw [e]
      exact ⟨t, _, rfl, SqT.of (s1 _ _ (s0 _ _ q)), rfl, _, _, rfl, _, _, rfl, rfl, h⟩
    · intro y hy H1 s1 Kq k1
      have hg1 := s1 _ _ (s0 _ _ hg)
      exact ⟨_, rfl, _, rfl, _, rfl, g, dg, _, rfl, hg1, gF_no F (by decide +kernel) (by decide +kernel), _, rfl, _, rfl, g, F, n, y.2.1, rfl, ⟨dg, hg1⟩, hs, _, _, rfl, rfl, step_ok hs _, _, _, rfl, rfl, k1 H1 (Same.refl H1)⟩
    · intro H1 s1 hD1
      refine ⟨p, D, _, _, rfl, rfl, s1 _ _ l0, hD1, sz ?_, fun p2 hp2 => ⟨p2, 0 :: IceM.lows F n, rfl, SqL.of (upd_same.trans ?_), Nat.succ_pos _, fun x hx hle => ?_⟩⟩
      · rw [List.length_map, List.length_zip, ht.len]
        show 1 + _ ≤ _
        omega
      · rw [zip_map z2 (fun q => V.int ((q.2 : Int) - (F.maxStep : Int) * (Km563.cellDistance F n q.1 : Int)))]
        unfold IceM.lows
        rw [List.map_cons, List.map_map]
        rfl
      · rw [IceM.lower_is hx hle]
        exact k _ ((s0.trans s1).trans (Same.new hp2))
def sp_upper_at (A : Ad) : Sp := fun vs H Q _ => ∃ (g : Addr) (F : Fd) (m : Addr) (n : Nat), vs = [.ref g, .int (F.maxStep : Int), .ref m, .int (n : Int)] ∧ GridAt A H g F ∧ IceM.Sized F ∧ MsAt H m F.measurements ∧ Pure H Q (.int (Km563.upperBound F n : Int))
theorem ok_upper_at (T : Txt K mg A) : FnOk P w K mg base CX0 3 A.upper_at.a A.upper_at.d ["grid", "step", "measurements", "cell"] (sp_upper_at A) := by
  refine T.f_upper_at.ok sc_upper_at (fun vs H Q E h => ?_) (fun cdv Ar outer s H vs Q E hr h => ?_)
  · obtain ⟨g, F, m, n, rfl, _⟩ := h
    rfl
  · obtain ⟨g, F, m, n, rfl, ⟨dg, hg⟩, hs, ⟨xs, hm, ht⟩, k⟩ := h
    obtain ⟨z1, z2, z3⟩ := ht.zip
    have hl := hs.len
    refine ⟨_, (pss_one (ps_ret (pe_callB (cr_min rfl) (by rfl) T.n_min (by decide +kernel) (pa_cons (pe_op op_cat (pe_lst (pa_cons (pe_k (by rfl) T.k_MOST_THICKNESS) pa_nil)) (pe_lc (own := [("place", 4), ("thickness", 5)]) (g := gTup K 2 (gCons (gName 4) (gCons (gName 5) gNil))) rfl sc_upper_at.nd (pi_list (pv 2)) (blkOk_by (own := [("place", 4), ("thickness", 5)]) (N := ["grid", "step", "measurements", "cell", "place", "thickness"]) (sc := defScope s_upper_at) (by decide +kernel)) (fun _ _ _ _ _ => pg_tup rfl (pgs_cons (pg_name (i := 4) sc_upper_at.nd rfl (Or.inl rfl)) (pgs_cons (pg_name (i := 5) sc_upper_at.nd rfl (Or.inl rfl)) pgs_nil))) (fun _ _ _ _ _ => pts_nil) (fun _ _ _ _ _ => (pe_op op_add (pv 5) (pe_op op_mul (pv 1) (pe_meth (pv 0) T.cl_Grid T.m_g_distance (ok_g_distance T) (hr.mono (by decide)) T.b_g_distance .nil pass0 (pa_cons (pv 3) (pa_cons (pv 4) pa_nil)))))))) pa_nil)))), ?_⟩
    refine ⟨(by show 1 ≤ sizeLine; decide), fun p hp => ?_⟩
    have s0 : Same H (upd H p (.lst [.int 99])) := Same.new hp
    have l0 : upd H p (.lst [.int 99]) p = some (.lst [.int 99]) := upd_same
    generalize upd H p (.lst [.int 99]) = H0 at s0 l0 ⊢
    refine ⟨_, rfl, m, rfl, ⟨_, SqL.of (s0 _ _ hm)⟩, fun D hD => lc_all (xs.zip F.measurements) Prod.fst (fun y => .int ((y.2.2 : Int) + (F.maxStep : Int) * (Km563.cellDistance F n y.2.1 : Int)))
      (fun y => [some (.ref g), some (.int (F.maxStep : Int)), some (.ref m), some (.int (n : Int)), some (.int (y.2.1 : Int)), some (.int (y.2.2 : Int))]) hD (by rw [z1]; exact SqL.of (s0 _ _ hm)) ?_ (fun y hy H1 s1 => ⟨fun Kg h => ?_, rfl⟩) ?_ ?_⟩
    · rw [List.length_zip, ht.len]
      omega
    · obtain ⟨t, e, q⟩ := z3 y hy
      rw [e]
      exact ⟨t, _, rfl, SqT.of (s1 _ _ (s0 _ _ q)), rfl, _, _, rfl, _, _, rfl, rfl, h⟩
    · intro y hy H1 s1 Kq k1
      have hg1 := s1 _ _ (s0 _ _ hg)
      exact ⟨_, rfl, _, rfl, _, rfl, g, dg, _, rfl, hg1, gF_no F (by decide +kernel) (by decide +kernel), _, rfl, _, rfl, g, F, n, y.2.1, rfl, ⟨dg, hg1⟩, hs, _, _, rfl, rfl, step_ok hs _, _, _, rfl, rfl, k1 H1 (Same.refl H1)⟩
    · intro H1 s1 hD1
      refine ⟨p, D, _, _, rfl, rfl, s1 _ _ l0, hD1, sz ?_, fun p2 hp2 => ⟨p2, 99 :: IceM.ups F n, rfl, SqL.of (upd_same.trans ?_), Nat.succ_pos _, fun x hx hle => ?_⟩⟩
      · rw [List.length_map, List.length_zip, ht.len]
        show 1 + _ ≤ _
        omega
      · rw [zip_map z2 (fun q => V.int ((q.2 : Int) + (F.maxStep : Int) * (Km563.cellDistance F n q.1 : Int)))]
        unfold IceM.ups
        rw [List.map_cons, List.map_map]
        rfl
      · rw [IceM.upper_is hx hle]
        exact k _ ((s0.trans s1).trans (Same.new hp2))
def sp_uncertainty_at (A : Ad) : Sp := fun vs H Q _ => ∃ (g : Addr) (F : Fd) (m : Addr) (n : Nat), vs = [.ref g, .int (F.maxStep : Int), .ref m, .int (n : Int)] ∧ GridAt A H g F ∧ IceM.Sized F ∧ MsAt H m F.measurements ∧ Pure H Q (.int (IceM.unc F n))
theorem ok_uncertainty_at (T : Txt K mg A) : FnOk P w K mg base CX0 4 A.uncertainty_at.a A.uncertainty_at.d ["grid", "step", "measurements", "cell"] (sp_uncertainty_at A) := by
  refine T.f_uncertainty_at.ok sc_uncertainty_at (fun vs H Q E h => ?_) (fun cdv Ar outer s H vs Q E hr h => ?_)
  · obtain ⟨g, F, m, n, rfl, _⟩ := h
    rfl
  · obtain ⟨g, F, m, n, rfl, hG, hs, hm, k⟩ := h
    refine ⟨_, (pss_one (ps_ret (pe_op op_sub (pe_call (ok_upper_at T) (hr.mono (by decide)) (by rfl) T.g_upper_at T.f_upper_at.kp T.b_upper_at .nil pass0 (pa_cons (pv 0) (pa_cons (pv 1) (pa_cons (pv 2) (pa_cons (pv 3) pa_nil))))) (pe_call (ok_lower_at T) (hr.mono (by decide)) (by rfl) T.g_lower_at T.f_lower_at.kp T.b_lower_at .nil pass0 (pa_cons (pv 0) (pa_cons (pv 1) (pa_cons (pv 2) (pa_cons (pv 3) pa_nil)))))))), ?_⟩
    refine ⟨_, rfl, _, rfl, _, rfl, _, rfl, g, F, m, n, rfl, hG, hs, hm, fun H1 s1 => ?_⟩
    refine ⟨_, rfl, _, rfl, _, rfl, _, rfl, g, F, m, n, rfl, hG.same s1, hs, hm.same s1, fun H2 s2 => ?_⟩
    exact ⟨_, _, rfl, rfl, k H2 (s1.trans s2)⟩
def sp_total_of (A : Ad) : Sp := fun vs H Q _ => ∃ (g : Addr) (F : Fd) (m : Addr), vs = [.ref g, .int (F.maxStep : Int), .ref m] ∧ GridAt A H g F ∧ IceM.Sized F ∧ MsAt H m F.measurements ∧ Pure H Q (.int (IceM.tot F))
theorem ok_total_of (T : Txt K mg A) : FnOk P w K mg base CX0 5 A.total_of.a A.total_of.d ["grid", "step", "measurements"] (sp_total_of A) := by
  refine T.f_total_of.ok sc_total_of (fun vs H Q E h => ?_) (fun cdv Ar outer s H vs Q E hr h => ?_)
  · obtain ⟨g, F, m, rfl, _⟩ := h
    rfl
  · obtain ⟨g, F, m, rfl, ⟨dg, hg⟩, hs, hm, k⟩ := h
    have hc : Km563.cellCount F ≤ 25 := IceM.cc_le hs
    refine ⟨_, (pss_one (ps_ret (pe_callB (cr_sum rfl) (by rfl) T.n_sum (by decide +kernel) (pa_cons (pe_lc (own := [("cell", 3)]) (g := gName 3) rfl sc_total_of.nd (pi_list (pe_meth0 (pv 0) T.cl_Grid T.m_g_cells (ok_g_cells T) (hr.mono (by decide)) T.b_g_cells .nil pass0)) (blkOk_by (own := [("cell", 3)]) (N := ["grid", "step", "measurements", "cell"]) (sc := defScope s_total_of) (by decide +kernel)) (fun _ _ _ _ _ => pg_name (i := 3) sc_total_of.nd rfl (Or.inl rfl)) (fun _ _ _ _ _ => pts_nil) (fun _ _ _ _ _ => (pe_call (ok_uncertainty_at T) (hr.mono (by decide)) (by rfl) T.g_uncertainty_at T.f_uncertainty_at.kp T.b_uncertainty_at .nil pass0 (pa_cons (pv 0) (pa_cons (pv 1) (pa_cons (pv 2) (pa_cons (pv 3) pa_nil))))))) pa_nil)))), ?_⟩
    refine ⟨_, rfl, g, dg, _, rfl, hg, gF_no F (by decide +kernel) (by decide +kernel), g, F, rfl, ⟨dg, hg⟩, hs, fun p H0 s0 hp => ⟨p, rfl, ⟨_, SqL.of hp⟩, fun D hD => ?_⟩⟩
    refine lc_all (List.range (Km563.cellCount F)) (fun n => .int (n : Int)) (fun n => .int (IceM.unc F n)) (fun n => [some (.ref g), some (.int (F.maxStep : Int)), some (.ref m), some (.int (n : Int))]) hD (by rw [← nts_map]; exact SqL.of hp) ?_ (fun y hy H1 s1 => ⟨fun _ h => h, rfl⟩) ?_ ?_
    · rw [List.length_range]
      omega
    · intro n hn H1 s1 Kq k1
      exact ⟨_, rfl, _, rfl, _, rfl, _, rfl, g, F, m, n, rfl, ⟨dg, s1 _ _ (s0 _ _ hg)⟩, hs, hm.same (s0.trans s1), k1⟩
    · intro H1 s1 hD1
      refine ⟨D, (List.range (Km563.cellCount F)).map fun n => IceM.unc F n, rfl, SqL.of (hD1.trans ?_), k H1 (s0.trans s1)⟩
      rw [List.map_map]
      rfl
def sp_without_cell : Sp := fun vs H Q _ => ∃ (m : Addr) (ms : List (Nat × Nat)) (n : Nat), vs = [.ref m, .int (n : Int)] ∧ MsAt H m ms ∧ ms.length ≤ 100 ∧ ∀ p H', Same H H' → MsAt H' p (IceM.others ms n) → Q (.ref p) H'
theorem ok_without_cell (T : Txt K mg A) : FnOk P w K mg base CX0 1 A.without_cell.a A.without_cell.d ["measurements", "cell"] sp_without_cell := by
  refine T.f_without_cell.ok sc_without_cell (fun vs H Q E h => ?_) (fun cdv Ar outer s H vs Q E hr h => ?_)
  · obtain ⟨m, ms, n, rfl, _⟩ := h
    rfl
  · obtain ⟨m, ms, n, rfl, ⟨xs, hm, ht⟩, hl, k⟩ := h
    obtain ⟨z1, z2, z3⟩ := ht.zip
    refine ⟨_, (pss_one (ps_ret (pe_lc (own := [("measurement", 2)]) (g := gName 2) (tt := tTest (tOp rNe (tOp (rIxT K) (tVar 2) (tC (.int 0))) (tVar 1))) rfl sc_without_cell.nd (pi_list (pv 0)) (blkOk_by (own := [("measurement", 2)]) (N := ["measurements", "cell", "measurement"]) (sc := defScope s_without_cell) (by decide +kernel)) (fun _ _ _ _ _ => pg_name (i := 2) sc_without_cell.nd rfl (Or.inl rfl)) (fun _ _ _ _ _ => pts_one (pt_cmpR op_ne (pe_ix ix_tup (pv 2) pe_int (fun _ _ => rfl)) (pv 1) (nomark _))) (fun _ _ _ _ _ => (pv 2))))), ?_⟩
    refine ⟨_, rfl, m, rfl, ⟨_, SqL.of hm⟩, fun D hD => lc_its (xs.zip ms) Prod.fst (fun y => y.2.1 != n) Prod.fst (fun y => [some (.ref m), some (.int (n : Int)), some y.1]) hD (by rw [z1]; exact SqL.of hm) ?_ (fun y hy H1 s1 => ⟨fun _ h => h, rfl, ?_⟩) ?_ ?_⟩
    · rw [List.length_zip, ht.len]
      omega
    · intro Kb h
      obtain ⟨t, e, q⟩ := z3 y hy
      refine ⟨_, rfl, t, _, _, _, e, rfl, SqT.of (s1 _ _ q), at_of (j := 0) rfl rfl, _, rfl, rfl, _, rfl, ?_⟩
      have e2 : (!decide (V.int (y.2.1 : Int) = V.int (n : Int))) = (y.2.1 != n) := by
        by_cases z : y.2.1 = n
        · rw [z]; simp
        · have : ¬ V.int (y.2.1 : Int) = V.int (n : Int) := fun u => z (by injection u with u; omega)
          rw [decide_eq_false this]
          simp [z]
      rw [e2]
      exact h H1 (Same.refl H1)
    · intro y hy _ H1 s1 Kq k1
      exact ⟨_, rfl, k1 H1 (Same.refl H1)⟩
    · intro H1 s1 hD1
      refine k D H1 s1 ⟨_, hD1, ?_⟩
      have e : IceM.others ms n = ((xs.zip ms).filter fun y => y.2.1 != n).map Prod.snd := by
        unfold IceM.others
        conv => lhs; rw [← z2]
        rw [List.filter_map]
        rfl
      rw [e]
      exact Tups.of fun y hy => (z3 y (List.mem_filter.mp hy).1).same s1
def sp_step_between (A : Ad) : Sp := fun vs H Q _ => ∃ (g : Addr) (F : Fd) (v1 v2 : V) (p q : Nat × Nat), vs = [.ref g, v1, v2] ∧ GridAt A H g F ∧ IceM.Sized F ∧ MAt H v1 p ∧ MAt H v2 q ∧ p.1 ≠ q.1 ∧ p.1 < F.columns * F.rows ∧ q.1 < F.columns * F.rows ∧ Q (.int (IceM.stepOf F p q : Int)) H
theorem ok_step_between (T : Txt K mg A) : FnOk P w K mg base CX0 3 A.step_between.a A.step_between.d ["grid", "one", "other"] (sp_step_between A) := by
  refine T.f_step_between.ok sc_step_between (fun vs H Q E h => ?_) (fun cdv Ar outer s H vs Q E hr h => ?_)
  · obtain ⟨g, F, v1, v2, p, q, rfl, _⟩ := h
    rfl
  · obtain ⟨g, F, v1, v2, p, q, rfl, ⟨dg, hg⟩, hs, ⟨t1, rfl, h1⟩, ⟨t2, rfl, h2⟩, ne, b1, b2, k⟩ := h
    have d1 := IceM.dist_pos (F := F) ne
    have d2 := IceM.dist_le hs b1 b2
    refine ⟨_, (pss_cons (ps_set (i := 3) sc_step_between.nd rfl (Or.inl rfl) (pe_meth (pv 0) T.cl_Grid T.m_g_distance (ok_g_distance T) (hr.mono (by decide)) T.b_g_distance .nil pass0 (pa_cons (pe_ix ix_tup (pv 1) pe_int (fun _ _ => rfl)) (pa_cons (pe_ix ix_tup (pv 2) pe_int (fun _ _ => rfl)) pa_nil))))
      (pss_one (ps_ret (pe_op op_fdiv (pe_op op_sub (pe_op op_add (pe_callB call_abs (by rfl) T.n_abs (by decide +kernel) (pa_cons (pe_op op_sub (pe_ix ix_tup (pv 1) pe_int (fun _ _ => rfl)) (pe_ix ix_tup (pv 2) pe_int (fun _ _ => rfl))) pa_nil)) (pv 3)) pe_int) (pv 3))))), ?_⟩
    refine ⟨_, rfl, g, dg, _, rfl, hg, gF_no F (by decide +kernel) (by decide +kernel), _, rfl, t1, _, _, _, rfl, rfl, SqT.of h1, at_of (j := 0) rfl rfl, _, rfl, t2, _, _, _, rfl, rfl, SqT.of h2, at_of (j := 0) rfl rfl, g, F, p.1, q.1, rfl, ⟨dg, hg⟩, hs, ?_⟩
    refine ⟨_, rfl, t1, _, _, _, rfl, rfl, SqT.of h1, at_of (j := 1) rfl rfl, _, rfl, t2, _, _, _, rfl, rfl, SqT.of h2, at_of (j := 1) rfl rfl, _, _, rfl, rfl, _, rfl, _, rfl, _, _, rfl, rfl, _, _, rfl, rfl, _, rfl, _, _, rfl, rfl, ⟨by omega, by omega⟩, ?_⟩
    dsimp only
    rw [IceM.diff_int]
    have e : ((Km563.difference p.2 q.2 : Nat) : Int) + ((Km563.cellDistance F p.1 q.1 : Nat) : Int) - 1 = ((Km563.difference p.2 q.2 + Km563.cellDistance F p.1 q.1 - 1 : Nat) : Int) := by omega
    rw [e, ← Int.natCast_ediv]
    exact k
def sp_smallest_step (A : Ad) : Sp := fun vs H Q _ => ∃ (g : Addr) (F : Fd) (m : Addr), vs = [.ref g, .ref m] ∧ GridAt A H g F ∧ IceM.Sized F ∧ MsAt H m F.measurements ∧ Pure H Q (.int (IceM.small F : Int))
theorem zip_get {H : Hp} : ∀ {xs : List V} {ms : List (Nat × Nat)}, Tups H xs ms → ∀ {i : Nat} {x : V}, xs[i]? = some x → ∃ p, ms[i]? = some p ∧ MAt H x p
  | [], [], _, _, _, h => by simp at h
  | x :: xs, p :: ms, ⟨m, r⟩, 0, y, h => by
    have e : x = y := Option.some.inj h
    subst e
    exact ⟨p, rfl, m⟩
  | x :: xs, p :: ms, ⟨m, r⟩, i + 1, y, h => zip_get r (i := i) (x := y) h
  | [], _ :: _, h, _, _, _ => h.elim
  | _ :: _, [], h, _, _, _ => h.elim
theorem take_on {α : Type} {l : List α} {i : Nat} {x : α} (h : l[i]? = some x) : l.take (i + 1) = l.take i ++ [x] := by
  rw [List.take_add_one, h]
  rfl
theorem ok_smallest_step (T : Txt K mg A) : FnOk P w K mg base CX0 4 A.smallest_step.a A.smallest_step.d ["grid", "measurements"] (sp_smallest_step A) := by
  refine T.f_smallest_step.ok sc_smallest_step (fun vs H Q E h => ?_) (fun cdv Ar outer s H vs Q E hr h => ?_)
  · obtain ⟨g, F, m, rfl, _⟩ := h
    rfl
  · obtain ⟨g, F, m, rfl, hG, hs, ⟨xs, hm, ht⟩, k⟩ := h
    have hl := hs.len
    refine ⟨_, (pss_cons (ps_set (i := 2) sc_smallest_step.nd rfl (Or.inl rfl) pe_int)
      (pss_cons (ps_for PassesOwn.never rfl (pi_list (pv 1)) (pg_name (i := 3) sc_smallest_step.nd rfl (Or.inl rfl)) (pss_one (ps_for PassesOwn.never rfl (pi_list (pe_call (ok_without_cell T) (hr.mono (by decide)) (by rfl) T.g_without_cell T.f_without_cell.kp T.b_without_cell .nil pass0 (pa_cons (pv 1) (pa_cons (pe_ix ix_tup (pv 3) pe_int (fun _ _ => rfl)) pa_nil)))) (pg_name (i := 4) sc_smallest_step.nd rfl (Or.inl rfl)) (pss_one (ps_set (i := 2) sc_smallest_step.nd rfl (Or.inl rfl) (pe_callB (call_max2 rfl) (by rfl) T.n_max (by decide +kernel) (pa_cons (pv 2) (pa_cons (pe_call (ok_step_between T) (hr.mono (by decide)) (by rfl) T.g_step_between T.f_step_between.kp T.b_step_between .nil pass0 (pa_cons (pv 0) (pa_cons (pv 3) (pa_cons (pv 4) pa_nil)))) pa_nil))))))))
      (pss_one (ps_ret (pv 2))))), ?_⟩
    refine ⟨_, rfl, m, rfl, ⟨_, SqL.of hm⟩, for_list (K := K) (a := m) (xs := xs) (fun i σ H' => ∃ vo vt : Option V, σ = [some (.ref g), some (.ref m), some (.int (((F.measurements.take i).foldl (fun f a => (IceM.others F.measurements a.1).foldl (fun f b => max f (IceM.stepOf F a b)) f) 0 : Nat) : Int)), vo, vt] ∧ Same H H')
      ⟨none, none, rfl, Same.refl H⟩ (fun i σ H' _ ⟨_, _, _, s⟩ => SqL.of (s _ _ hm)) ?_ ?_⟩
    · rintro i x σ H1 hi ⟨vo, vt, rfl, s1⟩
      obtain ⟨p, hp, t, e, ht1⟩ := zip_get ht hi
      subst e
      have hpm : p ∈ F.measurements := List.mem_of_getElem? hp
      refine ⟨_, rfl, _, rfl, t, _, _, _, rfl, rfl, SqT.of (s1 _ _ ht1), at_of (j := 0) rfl rfl, m, F.measurements, p.1, rfl, MsAt.same ⟨xs, hm, ht⟩ s1, by omega, fun q H2 s2 ⟨ys, hq, hys⟩ => ⟨q, rfl, ⟨_, SqL.of hq⟩, ?_⟩⟩
      rw [take_on hp, List.foldl_append]
      generalize (F.measurements.take i).foldl (fun f a => (IceM.others F.measurements a.1).foldl (fun f b => max f (IceM.stepOf F a b)) f) 0 = f0
      refine for_list (K := K) (a := q) (xs := ys) (fun j σ H' => ∃ vt : Option V, σ = [some (.ref g), some (.ref m), some (.int ((((IceM.others F.measurements p.1).take j).foldl (fun f b => max f (IceM.stepOf F p b)) f0 : Nat) : Int)), some (.ref t), vt] ∧ Same H2 H')
        ⟨vt, rfl, Same.refl H2⟩ (fun j σ H' _ ⟨_, _, s⟩ => SqL.of (s _ _ hq)) ?_ ?_
      · rintro j y σ H3 hj ⟨vt, rfl, s3⟩
        obtain ⟨o, ho, hoa⟩ := zip_get hys hj
        have hom := IceM.mem_others.mp (List.mem_of_getElem? ho)
        have s13 := s1.trans (s2.trans s3)
        refine ⟨_, rfl, _, rfl, _, rfl, _, rfl, g, F, .ref t, y, p, o, rfl, hG.same s13, hs, ⟨t, rfl, s13 _ _ ht1⟩, hoa.same s3, fun z => hom.2 z.symm, hs.cells p hpm, hs.cells o hom.1, _, _, rfl, ?_⟩
        refine ⟨some y, ?_, s3⟩
        rw [take_on ho, List.foldl_append]
        generalize ((IceM.others F.measurements p.1).take j).foldl (fun f b => max f (IceM.stepOf F p b)) f0 = f1
        show [some (V.ref g), some (V.ref m), some (V.int (if (IceM.stepOf F p o : Int) > (f1 : Int) then (IceM.stepOf F p o : Int) else (f1 : Int))), some (V.ref t), some y] = [some (V.ref g), some (V.ref m), some (V.int ((max f1 (IceM.stepOf F p o) : Nat) : Int)), some (V.ref t), some y]
        have e : (if (IceM.stepOf F p o : Int) > (f1 : Int) then (IceM.stepOf F p o : Int) else (f1 : Int)) = ((max f1 (IceM.stepOf F p o) : Nat) : Int) := by split <;> omega
        rw [e]
      · rintro σ H3 ⟨vt, rfl, s3⟩
        refine ⟨some (.ref t), vt, ?_, s1.trans (s2.trans s3)⟩
        rw [hys.len, List.take_length]
        rfl
    · rintro σ H1 ⟨vo, vt, rfl, s1⟩
      rw [ht.len, List.take_length]
      exact ⟨_, rfl, k H1 s1⟩
end
end IceW
set_option linter.all false
set_option maxRecDepth 100000
set_option maxHeartbeats 2000000
/-! The walk, part 3: routes. -/
namespace IceW
open PySem PySem.Spec PyProof.Rows L2
/-- a dict from cells to steps -/
def Dt (kvs : List (Key × V)) (t : IceM.Tb) : Prop := ∀ n : Nat, valV kvs (Sum.inl (n : Int)) = (t n).map fun k : Nat => V.int (k : Int)
theorem Dt.is {kvs : List (Key × V)} {t : IceM.Tb} (h : Dt kvs t) (n : Nat) : (valV kvs (Sum.inl (n : Int))).isSome = (t n).isSome := by
  rw [h n, Option.isSome_map]
theorem Dt.put {kvs : List (Key × V)} {t : IceM.Tb} (h : Dt kvs t) (n k : Nat) : Dt (putK kvs (Sum.inl (n : Int)) (.int (k : Int))) (fun m => if m = n then some k else t m) := by
  intro m
  rw [valV_put]
  by_cases e : m = n
  · subst e
    simp
  · have : ¬ (Sum.inl (m : Int) : Key) = Sum.inl (n : Int) := fun z => e (by injection z with z; omega)
    rw [if_neg this, h m]
    simp [e]
theorem inV_nts (n : Nat) (l : List Nat) : inV (.int (n : Int)) (nts l) = decide (n ∈ l) := by
  unfold inV
  rw [nts_map, List.any_map, Bool.eq_iff_iff, decide_eq_true_iff, List.any_eq_true]
  constructor
  · rintro ⟨x, hx, e⟩
    have e : ((x : Int) == (n : Int)) = true := e
    have e := eq_of_beq e
    have : x = n := by omega
    rw [← this]; exact hx
  · intro h
    refine ⟨n, h, ?_⟩
    show ((n : Int) == (n : Int)) = true
    simp
theorem flat_nts (l : List Nat) : (nts l).all flatV = true := by
  rw [nts_map, List.all_map, List.all_eq_true]
  intro x _
  rfl
theorem nts_app (a b : List Nat) : nts (a ++ b) = nts a ++ nts b := by
  rw [nts_map, nts_map, nts_map, List.map_append]
theorem nts_rev (a : List Nat) : (nts a).reverse = nts a.reverse := by
  rw [nts_map, nts_map, List.map_reverse]
section
variable {P : Program} {w : World} {K : PySem.W.Frag} {mg : Str → Option Value} {base : Heap} {A : Ad}
def sp_is_beside (A : Ad) : Sp := fun vs H Q _ => ∃ (g : Addr) (F : Fd) (n : Nat) (d : Addr) (kvs : List (Key × V)) (t : IceM.Tb), vs = [.ref g, .int (n : Int), .ref d] ∧ GridAt A H g F ∧ IceM.Sized F ∧ H d = some (.dK kvs) ∧ Dt kvs t ∧ Pure H Q (.bl (IceM.near F t n))
theorem ok_is_beside (T : Txt K mg A) : FnOk P w K mg base CX0 3 A.is_beside.a A.is_beside.d ["grid", "cell", "found"] (sp_is_beside A) := by
  refine T.f_is_beside.ok sc_is_beside (fun vs H Q E h => ?_) (fun cdv Ar outer s H vs Q E hr h => ?_)
  · obtain ⟨g, F, n, d, kvs, t, rfl, _⟩ := h
    rfl
  · obtain ⟨g, F, n, d, kvs, t, rfl, ⟨dg, hg⟩, hs, hd, ht, k⟩ := h
    have hl := IceM.nb_len F n
    refine ⟨_, (pss_one (ps_ret (pe_callB (cr_any rfl) (by rfl) T.n_any (by decide +kernel) (pa_cons (pe_lc (own := [("neighbour", 3)]) (g := gName 3) rfl sc_is_beside.nd (pi_list (pe_meth (pv 0) T.cl_Grid T.m_g_neighbours (ok_g_neighbours T) (hr.mono (by decide)) T.b_g_neighbours .nil pass0 (pa_cons (pv 1) pa_nil))) (blkOk_by (own := [("neighbour", 3)]) (N := ["grid", "cell", "found", "neighbour"]) (sc := defScope s_is_beside) (by decide +kernel)) (fun _ _ _ _ _ => pg_name (i := 3) sc_is_beside.nd rfl (Or.inl rfl)) (fun _ _ _ _ _ => pts_nil) (fun _ _ _ _ _ => (pe_cmp (pc_din (hu_of hr) (pv 3) (pv 2))))) pa_nil)))), ?_⟩
    refine ⟨_, rfl, g, dg, _, rfl, hg, gF_no F (by decide +kernel) (by decide +kernel), _, rfl, g, F, n, rfl, ⟨dg, hg⟩, hs, fun p H0 s0 hp => ⟨p, rfl, ⟨_, SqL.of hp⟩, fun D hD => ?_⟩⟩
    refine lc_all (Km563.neighbours F n) (fun n => .int (n : Int)) (fun m => .bl (t m).isSome) (fun m => [some (.ref g), some (.int (n : Int)), some (.ref d), some (.int (m : Int))]) hD (by rw [← nts_map]; exact SqL.of hp) (by omega) (fun y hy H1 s1 => ⟨fun _ h => h, rfl⟩) ?_ ?_
    · intro m hm H1 s1 Kq k1
      refine ⟨_, rfl, _, rfl, d, _, rfl, DGet.k (k := Sum.inl (m : Int)) (s1 _ _ (s0 _ _ hd)), ?_⟩
      rw [ht.is]
      exact k1 H1 (Same.refl H1)
    · intro H1 s1 hD1
      refine ⟨D, (Km563.neighbours F n).map fun m => (t m).isSome, rfl, SqL.of (hD1.trans ?_), ?_⟩
      · rw [List.map_map]
        rfl
      · rw [List.any_map]
        exact k H1 (s0.trans s1)
def sp_cell_before (A : Ad) : Sp := fun vs H Q _ => ∃ (g : Addr) (F : Fd) (n : Nat) (d : Addr) (kvs : List (Key × V)) (t : IceM.Tb) (e m : Nat), vs = [.ref g, .ref d, .int (n : Int)] ∧ GridAt A H g F ∧ IceM.Sized F ∧ H d = some (.dK kvs) ∧ Dt kvs t ∧
  t n = some (e + 1) ∧ IceM.prv F t n e = some m ∧ Pure H Q (.int (m : Int))
theorem ok_cell_before (T : Txt K mg A) : FnOk P w K mg base CX0 3 A.cell_before.a A.cell_before.d ["grid", "steps", "cell"] (sp_cell_before A) := by
  refine T.f_cell_before.ok sc_cell_before (fun vs H Q E h => ?_) (fun cdv Ar outer s H vs Q E hr h => ?_)
  · obtain ⟨g, F, n, d, kvs, t, e, m, rfl, _⟩ := h
    rfl
  · obtain ⟨g, F, n, d, kvs, t, e, m, rfl, ⟨dg, hg⟩, hs, hd, ht, hn, hm, k⟩ := h
    have hl := IceM.nb_len F n
    refine ⟨_, (pss_one (ps_ret (pe_ix ix_list (pe_lc (own := [("other", 3)]) (g := gName 3) rfl sc_cell_before.nd (pi_list (pe_meth (pv 0) T.cl_Grid T.m_g_neighbours (ok_g_neighbours T) (hr.mono (by decide)) T.b_g_neighbours .nil pass0 (pa_cons (pv 2) pa_nil))) (blkOk_by (own := [("other", 3)]) (N := ["grid", "steps", "cell", "other"]) (sc := defScope s_cell_before) (by decide +kernel)) (fun _ _ _ _ _ => pg_name (i := 3) sc_cell_before.nd rfl (Or.inl rfl)) (fun _ _ _ _ _ => pts_one (pt_cmpR op_eq (pe_dget1 (hu_of hr) (pv 1) (pv 3) ⟨rfl, rfl, rfl, rfl⟩) (pe_op op_sub (pe_dget (hu_of hr) (pv 1) (pv 2) (fun _ _ => rfl)) pe_int) (nomark _))) (fun _ _ _ _ _ => (pv 3))) pe_int (fun _ _ => rfl)))), ?_⟩
    refine ⟨_, rfl, g, dg, _, rfl, hg, gF_no F (by decide +kernel) (by decide +kernel), _, rfl, g, F, n, rfl, ⟨dg, hg⟩, hs, fun p H0 s0 hp => ⟨p, rfl, ⟨_, SqL.of hp⟩, fun D hD => ?_⟩⟩
    refine lc_its (Km563.neighbours F n) (fun n => .int (n : Int)) (fun m => t m == some e) (fun m => .int (m : Int)) (fun m => [some (.ref g), some (.ref d), some (.int (n : Int)), some (.int (m : Int))]) hD (by rw [← nts_map]; exact SqL.of hp) (by omega) (fun y hy H1 s1 => ⟨fun _ h => h, rfl, fun Kb kb => ?_⟩) ?_ ?_
    · have hd1 := s1 _ _ (s0 _ _ hd)
      refine ⟨_, rfl, d, rfl, .inl ⟨kvs, .inl hd1⟩, _, rfl, _, DGet.k (k := Sum.inl (y : Int)) hd1, ?_⟩
      refine ⟨_, rfl, _, rfl, d, .int ((e + 1 : Nat) : Int), rfl, ?_, _, _, rfl, rfl, ?_⟩
      · have q := DGet.k (k := Sum.inl (n : Int)) hd1
        rw [ht n, hn] at q
        exact q
      · rw [ht y]
        cases q : t y with
        | none =>
          refine ⟨rfl, _, rfl, ?_⟩
          have := kb H1 (Same.refl H1)
          rw [q] at this
          exact this
        | some c =>
          refine ⟨rfl, _, rfl, ?_⟩
          have := kb H1 (Same.refl H1)
          rw [q] at this
          have e1 : decide (V.int (c : Int) = V.int (((e + 1 : Nat) : Int) - 1)) = (some c == some e) := by
            rw [Bool.eq_iff_iff, decide_eq_true_iff]
            constructor
            · intro z
              injection z with z
              have : c = e := by omega
              rw [this]; simp
            · intro z
              have : c = e := by simpa using z
              rw [this]
              congr 1
              omega
          show Kb (decide (V.int (c : Int) = V.int (((e + 1 : Nat) : Int) - 1))) H1
          rw [e1]
          exact this
    · intro m hm _ H1 s1 Kq k1
      exact ⟨_, rfl, k1 H1 (Same.refl H1)⟩
    · intro H1 s1 hD1
      refine ⟨D, _, _, .int (m : Int), rfl, rfl, SqL.of hD1, at_of (j := 0) rfl ?_, k H1 (s0.trans s1)⟩
      rw [List.getElem?_map, IceM.filter_head]
      unfold IceM.prv at hm
      rw [hm]
      rfl
def sp_steps_from (A : Ad) : Sp := fun vs H Q _ => ∃ (g : Addr) (F : Fd) (a : Addr) (al : List Nat) (o : Nat), vs = [.ref g, .ref a, .int (o : Int)] ∧ GridAt A H g F ∧ IceM.Sized F ∧ H a = some (.lst (nts al)) ∧ al.length ≤ 25 ∧
  ∀ d kvs H', Same H H' → H' d = some (.dK kvs) → Dt kvs (IceM.bfs F al o (Km563.cellCount F - 1)) → Q (.ref d) H'
theorem later_is {F : Fd} {al : List Nat} {o i : Nat} (n : Nat) : (if n ∈ al.filter (fun n => (IceM.bfs F al o i n).isNone && IceM.near F (IceM.bfs F al o i) n) then some (i + 1) else IceM.bfs F al o i n) = IceM.bfs F al o (i + 1) n := by
  rw [IceM.bfs_succ]
  by_cases q : (IceM.bfs F al o i n).isSome = true
  · rw [if_pos q, if_neg]
    intro m
    have := (List.mem_filter.mp m).2
    rw [Bool.and_eq_true] at this
    have h := this.1
    rw [Option.isNone_iff_eq_none] at h
    rw [h] at q
    cases q
  · rw [if_neg q]
    have hn : IceM.bfs F al o i n = none := by
      cases e : IceM.bfs F al o i n with
      | none => rfl
      | some d => rw [e] at q; exact absurd rfl q
    by_cases z : n ∈ al ∧ IceM.near F (IceM.bfs F al o i) n = true
    · rw [if_pos z, if_pos (List.mem_filter.mpr ⟨z.1, by rw [hn, z.2]; rfl⟩)]
    · rw [if_neg z, if_neg, hn]
      intro m
      have := List.mem_filter.mp m
      rw [Bool.and_eq_true] at this
      exact z ⟨this.1, this.2.2⟩
theorem ok_steps_from (T : Txt K mg A) : FnOk P w K mg base CX0 4 A.steps_from.a A.steps_from.d ["grid", "allowed", "origin"] (sp_steps_from A) := by
  refine T.f_steps_from.ok sc_steps_from (fun vs H Q E h => ?_) (fun cdv Ar outer s H vs Q E hr h => ?_)
  · obtain ⟨g, F, a, al, o, rfl, _⟩ := h
    rfl
  · obtain ⟨g, F, a, al, o, rfl, ⟨dg, hg⟩, hs, ha, hl, k⟩ := h
    have hc : Km563.cellCount F ≤ 25 := IceM.cc_le hs
    have hc1 : 1 ≤ Km563.cellCount F := IceM.cc_pos hs
    refine ⟨_, (pss_cons (ps_set (i := 3) sc_steps_from.nd rfl (Or.inr rfl) (pe_ifExp (pt_cmpR op_in_seq (pv 2) (pv 1) (by rfl)) (pe_disp (pps_cons (pv 2) pe_int pps_nil) (by rfl) (by rfl) (fun z => by cases z) (by decide)) pe_dnewK))
      (pss_cons (ps_for PassesOwn.never rfl (pi_range2 (by rfl) T.n_range (pa_cons pe_int (pa_cons (pe_meth0 (pv 0) T.cl_Grid T.m_g_cell_count (ok_g_cell_count T) (hr.mono (by decide)) T.b_g_cell_count .nil pass0) pa_nil))) (pg_name (i := 4) sc_steps_from.nd rfl (Or.inl rfl)) (pss_cons (ps_setLc (i := 6) (own := [("cell", 5)]) (g := gName 5) rfl sc_steps_from.nd rfl rfl (sw_true rfl rfl rfl (by decide +kernel)) (pi_list (pv 1)) (blkOk_by (own := [("cell", 5)]) (N := ["grid", "allowed", "origin", "found", "steps", "cell", "later"]) (sc := defScope s_steps_from) (by decide +kernel)) (fun _ _ _ _ _ => pg_name (i := 5) sc_steps_from.nd rfl (Or.inl rfl)) (fun _ _ _ _ _ => pts_one (PW.pt (pw_and (pt_cmp (pc_dnotin (hu_of hr) (pv 5) (pv 3))) (pw_and1 (pt_val (pe_call (ok_is_beside T) (hr.mono (by decide)) (by rfl) T.g_is_beside T.f_is_beside.kp T.b_is_beside .nil pass0 (pa_cons (pv 0) (pa_cons (pv 5) (pa_cons (pv 3) pa_nil))))))))) (fun _ _ _ _ _ => (pv 5)))
      (pss_one (ps_for PassesOwn.never rfl (pi_list (pv 6)) (pg_name (i := 5) sc_steps_from.nd rfl (Or.inl rfl)) (pss_one (ps_dput (hu_of hr) (pv 3) (pv 5) (pv 4) rfl))))))
      (pss_one (ps_ret (pv 3))))), ?_⟩
    have first : ∀ Q' : VK, (∀ p kvs H', H p = none → Same H H' → H' p = some (.dK kvs) → kvs.length ≤ 1 → Dt kvs (IceM.b0 al o) → Q' (.ref p) H') →
        (tIf (tTest (tOp (rIn K false) (tVar 2) (tVar 1))) (tDisp [(tVar 2, tC (.int 0))]) tDNewK) (start ["grid", "allowed", "origin", "found", "steps", "cell", "later"] [.ref g, .ref a, .int (o : Int)]) H Q' := by
      intro Q' kq
      refine ⟨_, rfl, _, rfl, a, _, rfl, .inl (SqL.of ha), rfl, flat_nts al, _, rfl, ?_⟩
      rw [if_neg Bool.false_ne_true, inV_nts]
      by_cases q : o ∈ al
      · rw [decide_eq_true q]
        refine iteT ?_
        intro p hp
        refine ⟨_, rfl, upd_same, [(Sum.inl (o : Int), V.int 0)], rfl, (by show 1 ≤ 15; decide), ?_⟩
        rw [upd_upd]
        refine kq p _ _ hp (Same.new hp) upd_same (by show 1 ≤ 1; decide) fun n => ?_
        show valV [(Sum.inl (o : Int), V.int 0)] (Sum.inl (n : Int)) = (if n = o ∧ o ∈ al then some 0 else none).map fun k : Nat => V.int (k : Int)
        by_cases e : n = o
        · subst e
          rw [valV_pos rfl, if_pos ⟨rfl, q⟩]
          rfl
        · rw [valV_neg (fun z => e (by injection z with z; omega)), if_neg fun z => e z.1]
          rfl
      · rw [decide_eq_false q]
        refine iteF ?_
        intro p hp
        refine kq p _ _ hp (Same.new hp) upd_same (by show 0 ≤ 1; decide) fun n => ?_
        show (none : Option V) = (if n = o ∧ o ∈ al then some 0 else none).map fun k : Nat => V.int (k : Int)
        rw [if_neg fun z => q z.2]
        rfl
    refine first _ fun p kvs0 H0 hp s0 hp0 hk0 hD0 => ?_
    have np : ∀ {b : Addr} {u : HO}, H b = some u → b ≠ p := fun e => ne_of_none e hp
    refine ⟨_, rfl, g, dg, _, rfl, s0 _ _ hg, gF_no F (by decide +kernel) (by decide +kernel), g, F, rfl, ⟨dg, s0 _ _ hg⟩, hs, _, _, rfl, ⟨by decide, by decide, by omega, by omega⟩, ?_⟩
    rw [show ((Km563.cellCount F : Int) - 1).toNat = Km563.cellCount F - 1 by omega]
    refine for_range (lo := 1) (n := Km563.cellCount F - 1) (fun i σ H' => ∃ (kvs : List (Key × V)) (v4 v5 v6 : Option V), σ = [some (.ref g), some (.ref a), some (.int (o : Int)), some (.ref p), v4, v5, v6] ∧ Same H H' ∧ H' p = some (.dK kvs) ∧ kvs.length ≤ 1 + 25 * i ∧ Dt kvs (IceM.bfs F al o i))
      ⟨kvs0, none, none, none, rfl, s0, hp0, by omega, hD0⟩ ?_ ?_
    · rintro i σ H1 hi ⟨kvs, v4, v5, v6, rfl, s1, hp1, hk1, hD1⟩
      have ha1 := s1 _ _ ha
      refine ⟨_, rfl, a, rfl, ⟨_, SqL.of ha1⟩, fun D hD => ?_⟩
      refine lc_its al (fun n => .int (n : Int)) (fun n => (IceM.bfs F al o i n).isNone && IceM.near F (IceM.bfs F al o i) n) (fun n => .int (n : Int))
        (fun n => [some (.ref g), some (.ref a), some (.int (o : Int)), some (.ref p), some (.int (1 + (i : Int))), some (.int (n : Int)), v6]) hD (by rw [← nts_map]; exact SqL.of ha1) (by omega) (fun n hn H2 s2 => ⟨fun _ h => h, rfl, fun Kb kb => ?_⟩) ?_ ?_
      · have hp2 := s2 _ _ hp1
        refine ⟨_, rfl, _, rfl, p, _, rfl, DGet.k (k := Sum.inl (n : Int)) hp2, _, rfl, ?_⟩
        rw [hD1.is]
        by_cases q : (IceM.bfs F al o i n).isSome = true
        · have : (IceM.bfs F al o i n).isNone = false := by
            cases e : IceM.bfs F al o i n with
            | none => rw [e] at q; cases q
            | some _ => rfl
          have kb := kb H2 (Same.refl H2)
          rw [this, Bool.false_and] at kb
          rw [q]
          exact iteF kb
        · have e : (IceM.bfs F al o i n).isSome = false := by simpa using q
          have : (IceM.bfs F al o i n).isNone = true := by
            cases e : IceM.bfs F al o i n with
            | none => rfl
            | some _ => rw [e] at q; exact absurd rfl q
          rw [e]
          refine iteT ?_
          refine ⟨_, rfl, _, rfl, _, rfl, g, F, n, p, kvs, IceM.bfs F al o i, rfl, ⟨dg, s2 _ _ (s1 _ _ hg)⟩, hs, hp2, hD1, fun H3 s3 => ⟨_, rfl, ?_⟩⟩
          have kb := kb H3 s3
          rw [this, Bool.true_and] at kb
          exact kb
      · intro n hn _ H2 s2 Kq k2
        exact ⟨_, rfl, k2 H2 (Same.refl H2)⟩
      · intro H2 s2 hD2
        have hp2 := s2 _ _ hp1
        have nDp : D ≠ p := ne_of hD2 hp2 (by intro z; cases z)
        generalize hlat : al.filter (fun n => (IceM.bfs F al o i n).isNone && IceM.near F (IceM.bfs F al o i) n) = lat at hD2
        have hll : lat.length ≤ 25 := by
          rw [← hlat]
          exact Nat.le_trans (List.length_filter_le _ _) hl
        rw [← nts_map] at hD2
        refine ⟨_, rfl, D, rfl, ⟨_, SqL.of hD2⟩, for_list (K := K) (a := D) (xs := nts lat) (fun j σ H' => ∃ (kvs : List (Key × V)) (v5 : Option V), σ = [some (.ref g), some (.ref a), some (.int (o : Int)), some (.ref p), some (.int (1 + (i : Int))), v5, some (.ref D)] ∧
            H' p = some (.dK kvs) ∧ kvs.length ≤ 1 + 25 * i + j ∧ Dt kvs (fun n => if n ∈ lat.take j then some (i + 1) else IceM.bfs F al o i n) ∧ ∀ c u, H2 c = some u → c ≠ p → H' c = some u)
          ⟨kvs, v5, rfl, hp2, by omega, by simpa using hD1, fun _ _ e _ => e⟩ (fun j σ H' _ ⟨_, _, _, _, _, _, q⟩ => SqL.of (q _ _ hD2 nDp)) ?_ ?_⟩
        · rintro j x σ H3 hj ⟨kvs3, v5, rfl, hp3, hk3, hD3, q3⟩
          obtain ⟨n, hn, rfl⟩ := nts_get hj
          have hjl : j < lat.length := (List.getElem?_eq_some_iff.mp hn).1
          refine ⟨_, rfl, _, rfl, _, rfl, p, _, rfl, DPut.k (k := Sum.inl (n : Int)) hp3 (szl (by omega)), ?_⟩
          refine ⟨_, some (.int (n : Int)), rfl, upd_same, ?_, ?_, fun c u e hc => by rw [upd_ne hc]; exact q3 c u e hc⟩
          · have := length_putK kvs3 (Sum.inl (n : Int)) (.int (1 + (i : Int)))
            omega
          · have q := hD3.put n (i + 1)
            rw [show ((i + 1 : Nat) : Int) = 1 + (i : Int) by omega] at q
            intro m
            rw [q m]
            congr 1
            rw [take_on hn]
            simp only [List.mem_append, List.mem_singleton]
            by_cases e : m = n
            · rw [if_pos e, if_pos (.inr e)]
            · rw [if_neg e]
              by_cases e2 : m ∈ lat.take j
              · rw [if_pos e2, if_pos (.inl e2)]
              · rw [if_neg e2, if_neg (by rintro (z | z); exact e2 z; exact e z)]
        · rintro σ H3 ⟨kvs3, v5, rfl, hp3, hk3, hD3, q3⟩
          rw [nts_len] at hk3 hD3
          rw [List.take_length] at hD3
          refine ⟨kvs3, _, v5, _, rfl, fun b u e => q3 b u (s2 b u (s1 b u e)) (np e), hp3, by omega, fun n => ?_⟩
          rw [hD3 n]
          congr 1
          rw [← hlat]
          exact later_is n
    · rintro σ H1 ⟨kvs, v4, v5, v6, rfl, s1, hp1, hk1, hD1⟩
      exact ⟨_, rfl, k p kvs H1 s1 hp1 hD1⟩
def sp_route (A : Ad) : Sp := fun vs H Q _ => ∃ (g : Addr) (F : Fd) (a : Addr) (req o t : Nat), vs = [.ref g, .ref a, .int (o : Int), .int (t : Int)] ∧ GridAt A H g F ∧ IceM.Sized F ∧ H a = some (.lst (nts (IceM.safes F req))) ∧
  (IceM.tab F req o t = none → Pure H Q .non) ∧ (∀ d, IceM.tab F req o t = some d → New H Q (nts (IceM.routeOf F req o t)))
theorem safes_len {F : Fd} (hs : IceM.Sized F) (req : Nat) : (IceM.safes F req).length ≤ 25 := by
  unfold IceM.safes
  have h1 := List.length_filter_le (fun c => Km563.isSafe F req c) (List.range (Km563.cellCount F))
  rw [List.length_range] at h1
  have h2 : Km563.cellCount F ≤ 25 := IceM.cc_le hs
  omega
theorem ok_route (T : Txt K mg A) : FnOk P w K mg base CX0 5 A.route.a A.route.d ["grid", "allowed", "origin", "target"] (sp_route A) := by
  refine T.f_route.ok sc_route (fun vs H Q E h => ?_) (fun cdv Ar outer s H vs Q E hr h => ?_)
  · obtain ⟨g, F, a, req, o, t, rfl, _⟩ := h
    rfl
  · obtain ⟨g, F, a, req, o, t, rfl, ⟨dg, hg⟩, hs, ha, k1, k2⟩ := h
    have hc : Km563.cellCount F ≤ 25 := IceM.cc_le hs
    refine ⟨_, (pss_cons (ps_set (i := 4) sc_route.nd rfl (Or.inl rfl) (pe_call (ok_steps_from T) (hr.mono (by decide)) (by rfl) T.g_steps_from T.f_steps_from.kp T.b_steps_from .nil pass0 (pa_cons (pv 0) (pa_cons (pv 1) (pa_cons (pv 2) pa_nil)))))
      (pss_cons (ps_if (pt_cmp (pc_dnotin (hu_of hr) (pv 3) (pv 4))) (pss_one (ps_ret pe_non)) pss_nil)
      (pss_cons (ps_set (i := 5) sc_route.nd rfl (Or.inl rfl) (pe_lst (pa_cons (pv 3) pa_nil)))
      (pss_cons (ps_for PassesOwn.never rfl (pi_range1 (by rfl) T.n_range (pa_cons (pe_dget (hu_of hr) (pv 4) (pv 3) (fun _ _ => rfl)) pa_nil)) (pg_name (i := 6) sc_route.nd rfl (Or.inl rfl)) (pss_one (ps_expr (pe_bm PySem.F.plainAttrs_list PySem.F.slot_list_append PySem.F.type_list_append mt_append (pv 5) (pa_cons (pe_call (ok_cell_before T) (hr.mono (by decide)) (by rfl) T.g_cell_before T.f_cell_before.kp T.b_cell_before .nil pass0 (pa_cons (pv 0) (pa_cons (pv 4) (pa_cons (pe_ix ix_list (pv 5) (pe_un un_neg pe_int) (fun _ _ => rfl)) pa_nil)))) pa_nil)))))
      (pss_one (ps_ret (pe_revL (pv 5)))))))), ?_⟩
    refine ⟨_, rfl, _, rfl, _, rfl, g, F, a, IceM.safes F req, o, rfl, ⟨dg, hg⟩, hs, ha, safes_len hs req, fun d kvs H0 s0 hd hD => ?_⟩
    refine ⟨_, rfl, _, rfl, d, _, rfl, DGet.k (k := Sum.inl (t : Int)) hd, _, rfl, ?_⟩
    rw [hD.is]
    cases q : IceM.bfs F (IceM.safes F req) o (Km563.cellCount F - 1) t with
    | none => exact iteT (k1 q H0 s0)
    | some e =>
      refine iteF ?_
      have hq : IceM.tab F req o t = some e := q
      have he := IceM.tab_small hq
      refine ⟨_, rfl, (by show 1 ≤ sizeLine; decide), fun p hp => ?_⟩
      have s1 := Same.new (o := .lst [.int (t : Int)]) hp
      have l1 : upd H0 p (.lst [.int (t : Int)]) p = some (.lst (nts [t])) := upd_same
      generalize upd H0 p (.lst [.int (t : Int)]) = H1 at s1 l1 ⊢
      refine ⟨_, rfl, _, rfl, d, .int (e : Int), rfl, ?_, _, rfl, by omega, by omega, ?_⟩
      · have z := DGet.k (k := Sum.inl (t : Int)) (s1 _ _ hd)
        rw [hD t, q] at z
        exact z
      refine for_range (lo := 0) (n := e) (fun i σ H' => ∃ (pre : List Nat) (cur : Nat) (v6 : Option V), σ = [some (.ref g), some (.ref a), some (.int (o : Int)), some (.int (t : Int)), some (.ref d), some (.ref p), v6] ∧ H' p = some (.lst (nts (pre ++ [cur]))) ∧
          pre.length = i ∧ IceM.tab F req o cur = some (e - i) ∧ IceM.routeOf F req o t = Km563.traceBack F (Km563.safeDistances F req o) (Km563.cellCount F - i) cur pre.reverse ∧ Same H0 H')
        ⟨[], t, none, rfl, l1, rfl, hq, rfl, s1⟩ ?_ ?_
      · rintro i σ H2 hi ⟨pre, cur, v6, rfl, hp2, hpl, hcur, hroute, s2⟩
        obtain ⟨c, hc'⟩ : ∃ c, e - i = c + 1 := ⟨e - i - 1, by omega⟩
        rw [hc'] at hcur
        obtain ⟨m, hm, _, hmt⟩ := IceM.prv_some hcur
        refine ⟨_, rfl, .inl ⟨rfl, _, SqL.of hp2⟩, _, rfl, _, rfl, _, rfl, _, rfl, p, _, _, .int (cur : Int), rfl, rfl, SqL.of hp2, ?_, g, F, cur, d, kvs, IceM.tab F req o, c, m, rfl, ⟨dg, s2 _ _ (s0 _ _ hg)⟩, hs, s2 _ _ hd, hD, hcur, hm, fun H3 s3 => ?_⟩
        · rw [nts_app]
          exact atI_last _ _
        refine ⟨p, _, _, rfl, rfl, s3 _ _ hp2, ?_, ?_⟩
        · rw [nts_len, List.length_append]
          exact szl (by show pre.length + 1 ≤ 100000; omega)
        refine ⟨pre ++ [cur], m, _, rfl, ?_, by rw [List.length_append, hpl]; rfl, ?_, ?_, ?_⟩
        · rw [upd_same, nts_app (pre ++ [cur])]
          rfl
        · rw [hmt]
          congr 1
          omega
        · rw [hroute]
          obtain ⟨f, hf⟩ : ∃ f, Km563.cellCount F - i = f + 1 := ⟨Km563.cellCount F - i - 1, by omega⟩
          rw [hf, IceM.trace_step hs hcur hm, List.reverse_append, show Km563.cellCount F - (i + 1) = f by omega]
          rfl
        · exact fun b u z => by
            rw [upd_ne (ne_of_none z hp)]
            exact s3 b u (s2 b u z)
      · rintro σ H2 ⟨pre, cur, v6, rfl, hp2, hpl, hcur, hroute, s2⟩
        rw [Nat.sub_self] at hcur
        refine ⟨_, rfl, p, _, rfl, SqL.of hp2, fun p2 hn2 => ?_⟩
        refine k2 e hq p2 _ (s0.trans (s2.trans (Same.new hn2))) (upd_same.trans ?_)
        rw [nts_rev, hroute, IceM.trace_end hs hcur, List.reverse_append]
        rfl
end
end IceW
set_option linter.all false
set_option maxRecDepth 100000
set_option maxHeartbeats 2000000
/-! The walk, part 4: the instance's methods, first half. -/
namespace IceW
open PySem PySem.Spec PyProof.Rows L2
def rs (r : Km563.Result) : List V := (r.num :: r.nums).map V.int
theorem rs_list (l : List Nat) : rs (Km563.listResult l) = V.int (l.length : Int) :: nts l := rfl
/-- all but the object at i stands -/
def Most (H H' : Hp) (i : Addr) : Prop := ∀ b o, H b = some o → b ≠ i → H' b = some o
theorem Same.most {H H' : Hp} (s : Same H H') (i : Addr) : Most H H' i := fun b o e _ => s b o e
theorem Most.tups {H H' : Hp} {i C dx : Addr} {fs : List (Str × V)} (k : Most H H' i) (hi : H i = some (.ins C dx fs)) : ∀ {xs : List V} {ps : List (Nat × Nat)}, Tups H xs ps → Tups H' xs ps
  | [], [], _ => trivial
  | _ :: _, _ :: _, ⟨⟨t, e, h⟩, r⟩ => ⟨⟨t, e, k _ _ h (ne_of h hi (by intro z; cases z))⟩, k.tups hi r⟩
  | [], _ :: _, h => h.elim
  | _ :: _, [], h => h.elim
theorem Most.ms {H H' : Hp} {i C dx m : Addr} {fs : List (Str × V)} {ms : List (Nat × Nat)} (k : Most H H' i) (hi : H i = some (.ins C dx fs)) (h : MsAt H m ms) : MsAt H' m ms := by
  obtain ⟨xs, e, t⟩ := h
  exact ⟨xs, k _ _ e (ne_of e hi (by intro z; cases z)), k.tups hi t⟩
theorem gi_ne {A : Ad} {H : Hp} {g i dg di m : Addr} {F F' : Fd} {g' : Addr} (hg : H g = some (.ins A.c_Grid dg (gF F))) (hi : H i = some (.ins A.c_Instance di (iF F' g' m))) : g ≠ i :=
  ne_of hg hi (by
    intro z
    injection z with _ _ z
    have q := congrArg List.length z
    exact absurd (show (2 : Nat) = 3 from q) (by decide))
/-- a call that may change the instance at i -/
def Told (A : Ad) (H : Hp) (i : Addr) (F : Fd) (c : Km563.Call) (Q : VK) : Prop :=
  ∀ p H' F', (Km563.step (some F) c).1 = some F' → InstAt A H' i F' → Most H H' i → H' p = some (.lst (rs (Km563.step (some F) c).2)) → Q (.ref p) H'
theorem Told.new {A : Ad} {H : Hp} {i : Addr} {F : Fd} {c : Km563.Call} {Q : VK} (k : Told A H i F c Q) (h : (Km563.step (some F) c).1 = some F) (hI : InstAt A H i F) : New H Q (rs (Km563.step (some F) c).2) :=
  fun p H' s e => k p H' F h (hI.same s) (Same.most s i) e
theorem one_ok : ([V.non] : List V).length ≤ sizeLine := by show 1 ≤ sizeLine; decide
section
variable {P : Program} {w : World} {K : PySem.W.Frag} {mg : Str → Option Value} {base : Heap} {A : Ad}
def sp_counted : Sp := fun vs H Q _ => ∃ (a : Addr) (xs : List V), vs = [.ref a] ∧ H a = some (.lst xs) ∧ xs.length ≤ 1000 ∧ New H Q (V.int (xs.length : Int) :: xs)
theorem ok_counted (T : Txt K mg A) : FnOk P w K mg base CX0 1 A.counted.a A.counted.d ["numbers"] sp_counted := by
  refine T.f_counted.ok sc_counted (fun vs H Q E h => ?_) (fun cdv Ar outer s H vs Q E hr h => ?_)
  · obtain ⟨a, xs, rfl, _⟩ := h
    rfl
  · obtain ⟨a, xs, rfl, ha, hl, k⟩ := h
    refine ⟨_, (pss_one (ps_ret (pe_op op_cat (pe_lst (pa_cons (pe_callB call_len_seq (by rfl) T.n_len (by decide +kernel) (pa_cons (pv 0) pa_nil)) pa_nil)) (pv 0)))), ?_⟩
    refine ⟨_, rfl, a, xs, rfl, .inl (SqL.of ha), (by show 1 ≤ sizeLine; decide), fun p hp => ?_⟩
    refine ⟨_, rfl, p, a, _, _, rfl, rfl, upd_same, Same.new hp _ _ ha, sz (by show 1 + xs.length ≤ 100000; omega), fun q hq => ?_⟩
    exact k q _ ((Same.new hp).trans (Same.new hq)) upd_same
def sp_i_init (A : Ad) : Sp := fun vs H Q _ => ∃ (p dx : Addr) (c r s : Nat), vs = [.ref p, .int (c : Int), .int (r : Int), .int (s : Int)] ∧ H p = some (.ins A.c_Instance dx []) ∧
  ∀ H', InstAt A H' p ⟨c, r, s, []⟩ → Most H H' p → Q .non H'
theorem ok_i_init (T : Txt K mg A) : FnOk P w K mg base CX0 3 A.i_init.a A.i_init.d ["self", "columns", "rows", "step"] (sp_i_init A) := by
  refine T.f_i_init.ok sc_i_init (fun vs H Q E h => ?_) (fun cdv Ar outer s H vs Q E hr h => ?_)
  · obtain ⟨p, dx, c, r, s, rfl, _⟩ := h
    rfl
  · obtain ⟨p, dx, c, r, s', rfl, hp, k⟩ := h
    refine ⟨_, (pss_cons (ps_fld (pv 0) (pe_make T.mk_Grid (ok_g_init T) (hr.mono (by decide)) (by rfl) T.g_Grid T.b_g_init .nil pass0 (pa_cons (pv 1) (pa_cons (pv 2) pa_nil))) rfl)
      (pss_cons (ps_fld (pv 0) (pv 3) rfl)
      (pss_one (ps_fld (pv 0) (pe_lst pa_nil) rfl)))), ?_⟩
    refine ⟨_, rfl, _, rfl, fun x dx' nx nd ne => ⟨x, dx', ⟨c, r, s', []⟩, rfl, upd_same, fun H1 ⟨dg, hg⟩ kp => ⟨rfl, ?_⟩⟩⟩
    have s1 : Same H H1 := Same.made nx nd kp
    have hp1 := s1 _ _ hp
    have nxp : x ≠ p := fun z => by rw [z, hp] at nx; cases nx
    refine ⟨_, rfl, p, _, dx, _, rfl, hp1, T.cl_Instance, T.n_Instance_grid, (by show 0 < 1000; decide), ?_⟩
    refine ⟨_, rfl, _, rfl, p, _, dx, _, rfl, upd_same, T.cl_Instance, T.n_Instance_step, (by show 1 < 1000; decide), ?_⟩
    refine ⟨Nat.zero_le _, fun l hl => ?_⟩
    have npl : p ≠ l := ne_of_none upd_same hl
    have nxl : x ≠ l := by
      refine ne_of_none (H := upd (upd H1 p _) p _) (o := .ins A.c_Grid dg (gF ⟨c, r, s', []⟩)) ?_ hl
      rw [upd_ne nxp, upd_ne nxp]
      exact hg
    refine ⟨_, rfl, p, _, dx, _, rfl, (upd_ne npl).trans upd_same, T.cl_Instance, T.n_Instance_measurements, (by show 2 < 1000; decide), ?_⟩
    refine k _ ⟨dx, x, l, upd_same.trans (congrArg (fun q => some (HO.ins A.c_Instance dx q)) ?_), ⟨dg, ?_⟩, [], ?_, trivial⟩ fun b o e hb => ?_
    · have a2 : putF "step" (V.int (s' : Int)) ([("grid", V.ref x)] : List (Str × V)) = ([("grid", V.ref x), ("step", V.int (s' : Int))] : List (Str × V)) := (put_on (by decide +kernel)).trans rfl
      have a3 : putF "measurements" (V.ref l) ([("grid", V.ref x), ("step", V.int (s' : Int))] : List (Str × V)) = ([("grid", V.ref x), ("step", V.int (s' : Int)), ("measurements", V.ref l)] : List (Str × V)) := (put_on (by decide +kernel)).trans (congrArg _ ((put_on (by decide +kernel)).trans rfl))
      show putF "measurements" (V.ref l) (putF "step" (V.int (s' : Int)) ([("grid", V.ref x)] : List (Str × V))) = _
      rw [a2, a3]
      rfl
    · rw [upd_ne nxp, upd_ne nxl, upd_ne nxp, upd_ne nxp]
      exact hg
    · rw [upd_ne npl.symm, upd_same]
    · have nbl : b ≠ l := by
        refine ne_of_none (H := upd (upd H1 p _) p _) (o := o) ?_ hl
        rw [upd_ne hb, upd_ne hb]
        exact s1 _ _ e
      rw [upd_ne hb, upd_ne nbl, upd_ne hb, upd_ne hb]
      exact s1 _ _ e
def sp_i_set_max_step (A : Ad) : Sp := fun vs H Q _ => ∃ (i : Addr) (F : Fd) (x : Nat), vs = [.ref i, .int (x : Int)] ∧ InstAt A H i F ∧ IceM.Good F ∧ Told A H i F (.setMaxStep x) Q
theorem ok_i_set_max_step (T : Txt K mg A) : FnOk P w K mg base CX0 6 A.i_set_max_step.a A.i_set_max_step.d ["self", "step"] (sp_i_set_max_step A) := by
  refine T.f_i_set_max_step.ok sc_i_set_max_step (fun vs H Q E h => ?_) (fun cdv Ar outer s H vs Q E hr h => ?_)
  · obtain ⟨i, F, x, rfl, _⟩ := h
    rfl
  · obtain ⟨i, F, x, rfl, hI, hgd, k⟩ := h
    obtain ⟨di, g, m, hi, hG, hM⟩ := hI
    have hI : InstAt A H i F := ⟨di, g, m, hi, hG, hM⟩
    refine ⟨_, (pss_cons (ps_if (pt_cmpR op_gt (pv 1) (pe_k (by rfl) T.k_MOST_STEP) (nomark _)) (pss_one (ps_ret (pe_lst (pa_cons (pe_k (by rfl) T.k_OUTSIDE) pa_nil)))) pss_nil)
      (pss_cons (ps_if (pt_not (pt_val (pe_call (ok_are_consistent T) (hr.mono (by decide)) (by rfl) T.g_are_consistent T.f_are_consistent.kp T.b_are_consistent .nil pass0 (pa_cons (pe_fld (pv 0) rfl) (pa_cons (pv 1) (pa_cons (pe_fld (pv 0) rfl) pa_nil)))))) (pss_one (ps_ret (pe_lst (pa_cons (pe_k (by rfl) T.k_NOT_POSSIBLE) pa_nil)))) pss_nil)
      (pss_cons (ps_set (i := 2) sc_i_set_max_step.nd rfl (Or.inl rfl) (pe_fld (pv 0) rfl))
      (pss_cons (ps_fld (pv 0) (pv 1) rfl)
      (pss_one (ps_ret (pe_lst (pa_cons (pv 2) pa_nil)))))))), ?_⟩
    refine ⟨_, rfl, _, _, rfl, rfl, _, rfl, ?_⟩
    by_cases q : 20 < x
    · rw [decide_eq_true (show (20 : Int) < (x : Int) by omega)]
      refine iteT ?_
      have k := k.new (by rw [IceM.st_set_out q]) hI
      rw [IceM.st_set_out q] at k
      exact ⟨(by show 1 ≤ sizeLine; decide), fun p hp => k p _ (Same.new hp) upd_same⟩
    · rw [decide_eq_false (show ¬ (20 : Int) < (x : Int) by omega)]
      refine iteF ?_
      refine ⟨_, rfl, i, _, di, _, _, rfl, hi, T.cl_Instance, T.n_Instance_grid, iF_g F g m, _, rfl, _, rfl, i, _, di, _, _, rfl, hi, T.cl_Instance, T.n_Instance_measurements, iF_m F g m, g, { F with maxStep := x }, m, rfl, hG, IceM.sized_step hgd.sz (by omega), hM, fun H1 s1 => ⟨_, rfl, ?_⟩⟩
      cases c : Km563.isConsistent { F with maxStep := x } with
      | false =>
        refine iteT ?_
        have k := k.new (by rw [IceM.st_set_no q c]) hI
        rw [IceM.st_set_no q c] at k
        exact ⟨(by show 1 ≤ sizeLine; decide), fun p hp => k p _ (s1.trans (Same.new hp)) upd_same⟩
      | true =>
        refine iteF ?_
        have hi1 := s1 _ _ hi
        refine ⟨_, rfl, i, _, di, _, _, rfl, hi1, T.cl_Instance, T.n_Instance_step, iF_s F g m, ?_⟩
        refine ⟨_, rfl, _, rfl, i, _, di, _, rfl, hi1, T.cl_Instance, T.n_Instance_step, (by show 3 < 1000; decide), ?_⟩
        refine ⟨_, rfl, (by show 1 ≤ sizeLine; decide), fun p hp => ?_⟩
        have npi : i ≠ p := ne_of_none upd_same hp
        have mo : Most H (upd (upd H1 i (.ins A.c_Instance di (putF "step" (.int (x : Int)) (iF F g m)))) p (.lst [.int (F.maxStep : Int)])) i := fun b o e hb => by
          rw [upd_ne (ne_of_none ((upd_ne hb).trans (s1 _ _ e)) hp), upd_ne hb]
          exact s1 _ _ e
        have hs := IceM.st_set_ok q c
        obtain ⟨dg, hg⟩ := hG
        refine k p _ { F with maxStep := x } (by rw [hs]) ⟨di, g, m, ?_, ⟨dg, mo _ _ hg (gi_ne hg hi)⟩, mo.ms hi hM⟩ mo (by rw [hs]; exact upd_same)
        rw [upd_ne npi, upd_same]
        refine congrArg (fun q => some (HO.ins A.c_Instance di q)) ?_
        exact (put_on (by decide +kernel)).trans (congrArg _ put_at)
def sp_i_measure_error (A : Ad) : Sp := fun vs H Q _ => ∃ (i : Addr) (F : Fd) (n t : Nat), vs = [.ref i, .int (n : Int), .int (t : Int)] ∧ InstAt A H i F ∧ IceM.Good F ∧ Pure H Q (.int (IceM.merr F n t))
theorem ok_i_measure_error (T : Txt K mg A) : FnOk P w K mg base CX0 5 A.i_measure_error.a A.i_measure_error.d ["self", "cell", "thickness"] (sp_i_measure_error A) := by
  refine T.f_i_measure_error.ok sc_i_measure_error (fun vs H Q E h => ?_) (fun cdv Ar outer s H vs Q E hr h => ?_)
  · obtain ⟨i, F, n, t, rfl, _⟩ := h
    rfl
  · obtain ⟨i, F, n, t, rfl, ⟨di, g, m, hi, ⟨dg, hg⟩, hM⟩, hgd, k⟩ := h
    have hs := hgd.sz
    have hl := hs.len
    refine ⟨_, (pss_cons (ps_if (pt_not (pt_val (pe_meth (pe_fld (pv 0) rfl) T.cl_Grid T.m_g_has_cell (ok_g_has_cell T) (hr.mono (by decide)) T.b_g_has_cell .nil pass0 (pa_cons (pv 1) pa_nil)))) (pss_one (ps_ret (pe_k (by rfl) T.k_NO_CELL))) pss_nil)
      (pss_cons (ps_if (pt_cmpR op_gt (pv 2) (pe_k (by rfl) T.k_MOST_THICKNESS) (nomark _)) (pss_one (ps_ret (pe_k (by rfl) T.k_OUTSIDE))) pss_nil)
      (pss_cons (ps_set (i := 3) sc_i_measure_error.nd rfl (Or.inl rfl) (pe_call (ok_without_cell T) (hr.mono (by decide)) (by rfl) T.g_without_cell T.f_without_cell.kp T.b_without_cell .nil pass0 (pa_cons (pe_fld (pv 0) rfl) (pa_cons (pv 1) pa_nil))))
      (pss_one (ps_ret (pe_ifExp (pt_val (pe_call (ok_is_consistent_with T) (hr.mono (by decide)) (by rfl) T.g_is_consistent_with T.f_is_consistent_with.kp T.b_is_consistent_with .nil pass0 (pa_cons (pe_fld (pv 0) rfl) (pa_cons (pe_fld (pv 0) rfl) (pa_cons (pe_tup (pa_cons (pv 1) (pa_cons (pv 2) pa_nil))) (pa_cons (pv 3) pa_nil)))))) pe_int (pe_k (by rfl) T.k_NOT_POSSIBLE))))))), ?_⟩
    refine ⟨_, rfl, i, _, di, _, _, rfl, hi, T.cl_Instance, T.n_Instance_grid, iF_g F g m, g, dg, _, rfl, hg, gF_no F (by decide +kernel) (by decide +kernel), _, rfl, g, F, n, rfl, ⟨dg, hg⟩, hs, _, rfl, ?_⟩
    unfold IceM.merr at k
    by_cases q : n < Km563.cellCount F
    · rw [decide_eq_true q]
      rw [if_neg (by omega)] at k
      refine iteF ?_
      refine ⟨_, rfl, _, _, rfl, rfl, _, rfl, ?_⟩
      by_cases q2 : 99 < t
      · rw [decide_eq_true (show (99 : Int) < (t : Int) by omega)]
        rw [if_pos q2] at k
        exact iteT (k H (Same.refl H))
      · rw [decide_eq_false (show ¬ (99 : Int) < (t : Int) by omega)]
        rw [if_neg q2] at k
        refine iteF ?_
        refine ⟨_, rfl, i, _, di, _, _, rfl, hi, T.cl_Instance, T.n_Instance_measurements, iF_m F g m, _, rfl, m, F.measurements, n, rfl, hM, by omega, fun p H1 s1 hp => ?_⟩
        have hi1 := s1 _ _ hi
        refine ⟨_, rfl, i, _, di, _, _, rfl, hi1, T.cl_Instance, T.n_Instance_grid, iF_g F g m, _, rfl, i, _, di, _, _, rfl, hi1, T.cl_Instance, T.n_Instance_step, iF_s F g m, _, rfl, _, rfl, (by show 2 ≤ sizeLine; decide), fun u hu => ?_⟩
        have s2 := Same.new (o := .tup [.int (n : Int), .int (t : Int)]) hu
        refine ⟨_, rfl, g, F, .ref u, (n, t), p, IceM.others F.measurements n, rfl, ⟨dg, s2 _ _ (s1 _ _ hg)⟩, hs, ⟨u, rfl, upd_same⟩, hp.same s2, Nat.le_trans (IceM.others_len _ _) (by omega), fun H2 s3 => ⟨_, rfl, ?_⟩⟩
        rw [← IceM.con_withM hgd]
        cases c : Km563.isConsistent (Km563.withMeasurement F n t) with
        | true =>
          rw [c, if_neg (by simp)] at k
          exact iteT (k H2 (s1.trans (s2.trans s3)))
        | false =>
          rw [c, if_pos rfl] at k
          exact iteF (k H2 (s1.trans (s2.trans s3)))
    · rw [decide_eq_false q]
      rw [if_pos (by omega)] at k
      exact iteT (k H (Same.refl H))
def sp_i_with_measurement (A : Ad) : Sp := fun vs H Q _ => ∃ (i : Addr) (F : Fd) (n t : Nat), vs = [.ref i, .int (n : Int), .int (t : Int)] ∧ InstAt A H i F ∧ IceM.Sized F ∧
  ∀ p H', Same H H' → MsAt H' p (Km563.withMeasurement F n t).measurements → Q (.ref p) H'
theorem ok_i_with_measurement (T : Txt K mg A) : FnOk P w K mg base CX0 2 A.i_with_measurement.a A.i_with_measurement.d ["self", "cell", "thickness"] (sp_i_with_measurement A) := by
  refine T.f_i_with_measurement.ok sc_i_with_measurement (fun vs H Q E h => ?_) (fun cdv Ar outer s H vs Q E hr h => ?_)
  · obtain ⟨i, F, n, t, rfl, _⟩ := h
    rfl
  · obtain ⟨i, F, n, t, rfl, ⟨di, g, m, hi, ⟨dg, hg⟩, hM⟩, hs, k⟩ := h
    have hl := hs.len
    refine ⟨_, (pss_one (ps_ret (pe_op op_cat (pe_call (ok_without_cell T) (hr.mono (by decide)) (by rfl) T.g_without_cell T.f_without_cell.kp T.b_without_cell .nil pass0 (pa_cons (pe_fld (pv 0) rfl) (pa_cons (pv 1) pa_nil))) (pe_lst (pa_cons (pe_tup (pa_cons (pv 1) (pa_cons (pv 2) pa_nil))) pa_nil))))), ?_⟩
    refine ⟨_, rfl, i, _, di, _, _, rfl, hi, T.cl_Instance, T.n_Instance_measurements, iF_m F g m, _, rfl, m, F.measurements, n, rfl, hM, by omega, fun p H1 s1 ⟨xs, hp, hx⟩ => ?_⟩
    refine ⟨_, rfl, _, rfl, (by show 2 ≤ sizeLine; decide), fun u hu => ⟨(by show 1 ≤ sizeLine; decide), fun v hv => ?_⟩⟩
    have s2 := Same.new (o := .tup [.int (n : Int), .int (t : Int)]) hu
    have hu2 : upd H1 u (.tup [.int (n : Int), .int (t : Int)]) u = some (.tup [.int (n : Int), .int (t : Int)]) := upd_same
    generalize upd H1 u (.tup [.int (n : Int), .int (t : Int)]) = H2 at s2 hu2 hv ⊢
    have s3 := Same.new (o := .lst [.ref u]) hv
    refine ⟨p, v, _, _, rfl, rfl, s3 _ _ (s2 _ _ hp), upd_same, sz ?_, fun z hz => ?_⟩
    · rw [hx.len]
      have := IceM.others_len F.measurements n
      show _ + 1 ≤ _
      omega
    · have s4 := Same.new (o := .lst (xs ++ [.ref u])) hz
      refine k z _ (s1.trans (s2.trans (s3.trans s4))) ⟨xs ++ [.ref u], upd_same, ?_⟩
      rw [IceM.withM_ms]
      exact Tups.app (ys := [.ref u]) (qs := [(n, t)]) ⟨⟨u, rfl, s4 _ _ (s3 _ _ hu2)⟩, trivial⟩ (hx.same (s2.trans (s3.trans s4)))
theorem len_withM {F : Fd} (hs : IceM.Sized F) (n t : Nat) : (Km563.withMeasurement F n t).measurements.length ≤ 26 := by
  rw [IceM.withM_ms, List.length_append]
  have := IceM.others_len F.measurements n
  have := hs.len
  show _ + 1 ≤ _
  omega
def sp_i_measure (A : Ad) : Sp := fun vs H Q _ => ∃ (i : Addr) (F : Fd) (n t : Nat), vs = [.ref i, .int (n : Int), .int (t : Int)] ∧ InstAt A H i F ∧ IceM.Good F ∧ Told A H i F (.measure n t) Q
theorem ok_i_measure (T : Txt K mg A) : FnOk P w K mg base CX0 6 A.i_measure.a A.i_measure.d ["self", "cell", "thickness"] (sp_i_measure A) := by
  refine T.f_i_measure.ok sc_i_measure (fun vs H Q E h => ?_) (fun cdv Ar outer s H vs Q E hr h => ?_)
  · obtain ⟨i, F, n, t, rfl, _⟩ := h
    rfl
  · obtain ⟨i, F, n, t, rfl, hI, hgd, k⟩ := h
    obtain ⟨di, g, m, hi, ⟨dg, hg⟩, hM⟩ := hI
    have hI : InstAt A H i F := ⟨di, g, m, hi, ⟨dg, hg⟩, hM⟩
    refine ⟨_, (pss_cons (ps_set (i := 3) sc_i_measure.nd rfl (Or.inl rfl) (pe_meth (pv 0) T.cl_Instance T.m_i_measure_error (ok_i_measure_error T) (hr.mono (by decide)) T.b_i_measure_error .nil pass0 (pa_cons (pv 1) (pa_cons (pv 2) pa_nil))))
      (pss_cons (ps_if (pt_cmpR op_ne (pv 3) pe_int (nomark _)) (pss_one (ps_ret (pe_lst (pa_cons (pv 3) pa_nil)))) pss_nil)
      (pss_cons (ps_fld (pv 0) (pe_meth (pv 0) T.cl_Instance T.m_i_with_measurement (ok_i_with_measurement T) (hr.mono (by decide)) T.b_i_with_measurement .nil pass0 (pa_cons (pv 1) (pa_cons (pv 2) pa_nil))) rfl)
      (pss_one (ps_ret (pe_lst (pa_cons (pe_callB call_len_seq (by rfl) T.n_len (by decide +kernel) (pa_cons (pe_fld (pv 0) rfl) pa_nil)) pa_nil))))))), ?_⟩
    refine ⟨_, rfl, i, di, _, rfl, hi, iF_no F g m (by decide +kernel), _, rfl, _, rfl, i, F, n, t, rfl, hI, hgd, fun H1 s1 => ?_⟩
    refine ⟨_, rfl, rfl, _, rfl, ?_⟩
    by_cases q : IceM.merr F n t = 0
    · rw [q]
      refine iteF ?_
      have hi1 := s1 _ _ hi
      refine ⟨_, rfl, i, di, _, rfl, hi1, iF_no F g m (by decide +kernel), _, rfl, _, rfl, i, F, n, t, rfl, hI.same s1, hgd.sz, fun p H2 s2 hp => ?_⟩
      have hi2 := s2 _ _ hi1
      refine ⟨_, rfl, i, _, di, _, rfl, hi2, T.cl_Instance, T.n_Instance_measurements, (by show 3 < 1000; decide), ?_⟩
      have e1 : putF "measurements" (.ref p) (iF F g m) = iF (Km563.withMeasurement F n t) g p := (put_on (by decide +kernel)).trans (congrArg _ ((put_on (by decide +kernel)).trans (congrArg _ put_at)))
      rw [e1]
      have mo : Most H2 (upd H2 i (.ins A.c_Instance di (iF (Km563.withMeasurement F n t) g p))) i := fun b o e hb => by
        rw [upd_ne hb]
        exact e
      have hi3 : upd H2 i (.ins A.c_Instance di (iF (Km563.withMeasurement F n t) g p)) i = some (.ins A.c_Instance di (iF (Km563.withMeasurement F n t) g p)) := upd_same
      generalize upd H2 i (.ins A.c_Instance di (iF (Km563.withMeasurement F n t) g p)) = H3 at mo hi3 ⊢
      obtain ⟨xs, hx, hxt⟩ := mo.ms hi2 hp
      refine ⟨_, rfl, i, _, di, _, _, rfl, hi3, T.cl_Instance, T.n_Instance_measurements, iF_m _ g p, p, xs, rfl, .inl (SqL.of hx), (by show 1 ≤ sizeLine; decide), fun u hu => ?_⟩
      have s4 := Same.new (o := .lst [.int (xs.length : Int)]) hu
      have st := IceM.st_measure_ok q
      refine k u _ (Km563.withMeasurement F n t) (by rw [st]) ⟨di, g, p, s4 _ _ hi3, ⟨dg, s4 _ _ (mo _ _ (s2 _ _ (s1 _ _ hg)) (gi_ne hg hi))⟩, MsAt.same ⟨xs, hx, hxt⟩ s4⟩ (fun b o e hb => s4 _ _ (mo _ _ (s2 _ _ (s1 _ _ e)) hb)) ?_
      rw [st, upd_same, hxt.len]
      rfl
    · have e0 : decide (V.int (IceM.merr F n t) = V.int 0) = false := decide_eq_false fun z => q (by injection z)
      rw [e0]
      refine iteT ?_
      have st := IceM.st_measure_no q
      have k := k.new (by rw [st]) hI
      rw [st] at k
      exact ⟨_, rfl, (by show 1 ≤ sizeLine; decide), fun p hp => k p _ (s1.trans (Same.new hp)) upd_same⟩
def sp_i_is_measured (A : Ad) : Sp := fun vs H Q _ => ∃ (i : Addr) (F : Fd) (n : Nat), vs = [.ref i, .int (n : Int)] ∧ InstAt A H i F ∧ IceM.Sized F ∧ Pure H Q (.bl (F.measurements.any fun m => m.1 == n))
theorem ok_i_is_measured (T : Txt K mg A) : FnOk P w K mg base CX0 1 A.i_is_measured.a A.i_is_measured.d ["self", "cell"] (sp_i_is_measured A) := by
  refine T.f_i_is_measured.ok sc_i_is_measured (fun vs H Q E h => ?_) (fun cdv Ar outer s H vs Q E hr h => ?_)
  · obtain ⟨i, F, n, rfl, _⟩ := h
    rfl
  · obtain ⟨i, F, n, rfl, ⟨di, g, m, hi, ⟨dg, hg⟩, ⟨xs, hm, ht⟩⟩, hs, k⟩ := h
    obtain ⟨z1, z2, z3⟩ := ht.zip
    have hl := hs.len
    refine ⟨_, (pss_one (ps_ret (pe_cmpR op_in_seq (pv 1) (pe_lc (own := [("measurement", 2)]) (g := gName 2) (te := tOp (rIxT K) (tVar 2) (tC (.int 0))) rfl sc_i_is_measured.nd (pi_list (pe_fld (pv 0) rfl)) (blkOk_by (own := [("measurement", 2)]) (N := ["self", "cell", "measurement"]) (sc := defScope s_i_is_measured) (by decide +kernel)) (fun _ _ _ _ _ => pg_name (i := 2) sc_i_is_measured.nd rfl (Or.inl rfl)) (fun _ _ _ _ _ => pts_nil) (fun _ _ _ _ _ => (pe_ix ix_tup (pv 2) pe_int (fun _ _ => rfl)))) (by rfl)))), ?_⟩
    refine ⟨_, rfl, _, rfl, i, _, di, _, _, rfl, hi, T.cl_Instance, T.n_Instance_measurements, iF_m F g m, m, rfl, ⟨_, SqL.of hm⟩, fun D hD => lc_all (xs.zip F.measurements) Prod.fst (fun y => .int (y.2.1 : Int)) (fun y => [some (.ref i), some (.int (n : Int)), some y.1]) hD (by rw [z1]; exact SqL.of hm) ?_ (fun y hy H1 s1 => ⟨fun _ h => h, rfl⟩) ?_ ?_⟩
    · rw [List.length_zip, ht.len]
      omega
    · intro y hy H1 s1 Kq k1
      obtain ⟨t, e, q⟩ := z3 y hy
      exact ⟨_, rfl, t, _, _, _, e, rfl, SqT.of (s1 _ _ q), at_of (j := 0) rfl rfl, k1 H1 (Same.refl H1)⟩
    · intro H1 s1 hD1
      have e : (xs.zip F.measurements).map (fun y => V.int (y.2.1 : Int)) = nts (F.measurements.map fun p => p.1) := by
        rw [zip_map z2 (fun p => V.int (p.1 : Int)), nts_map, List.map_map]
        rfl
      rw [e] at hD1
      refine ⟨D, _, rfl, .inl (SqL.of hD1), rfl, flat_nts _, ?_⟩
      have e2 : inV (.int (n : Int)) (nts (F.measurements.map fun p => p.1)) = F.measurements.any fun m => m.1 == n := by
        rw [inV_nts, Bool.eq_iff_iff, decide_eq_true_iff, List.any_eq_true, List.mem_map]
        constructor
        · rintro ⟨p, hp, e⟩
          exact ⟨p, hp, by rw [e]; simp⟩
        · rintro ⟨p, hp, e⟩
          exact ⟨p, hp, eq_of_beq e⟩
      rw [e2]
      exact k H1 s1
def sp_i_remove_measurement (A : Ad) : Sp := fun vs H Q _ => ∃ (i : Addr) (F : Fd) (n : Nat), vs = [.ref i, .int (n : Int)] ∧ InstAt A H i F ∧ IceM.Good F ∧ Told A H i F (.removeMeasurement n) Q
theorem ok_i_remove_measurement (T : Txt K mg A) : FnOk P w K mg base CX0 2 A.i_remove_measurement.a A.i_remove_measurement.d ["self", "cell"] (sp_i_remove_measurement A) := by
  refine T.f_i_remove_measurement.ok sc_i_remove_measurement (fun vs H Q E h => ?_) (fun cdv Ar outer s H vs Q E hr h => ?_)
  · obtain ⟨i, F, n, rfl, _⟩ := h
    rfl
  · obtain ⟨i, F, n, rfl, hI, hgd, k⟩ := h
    obtain ⟨di, g, m, hi, ⟨dg, hg⟩, hM⟩ := hI
    have hI : InstAt A H i F := ⟨di, g, m, hi, ⟨dg, hg⟩, hM⟩
    have hl := hgd.sz.len
    refine ⟨_, (pss_cons (ps_if (pt_not (pt_val (pe_meth (pv 0) T.cl_Instance T.m_i_is_measured (ok_i_is_measured T) (hr.mono (by decide)) T.b_i_is_measured .nil pass0 (pa_cons (pv 1) pa_nil)))) (pss_one (ps_ret (pe_lst (pa_cons (pe_k (by rfl) T.k_NO_CELL) pa_nil)))) pss_nil)
      (pss_cons (ps_fld (pv 0) (pe_call (ok_without_cell T) (hr.mono (by decide)) (by rfl) T.g_without_cell T.f_without_cell.kp T.b_without_cell .nil pass0 (pa_cons (pe_fld (pv 0) rfl) (pa_cons (pv 1) pa_nil))) rfl)
      (pss_one (ps_ret (pe_lst (pa_cons (pe_callB call_len_seq (by rfl) T.n_len (by decide +kernel) (pa_cons (pe_fld (pv 0) rfl) pa_nil)) pa_nil)))))), ?_⟩
    refine ⟨_, rfl, i, di, _, rfl, hi, iF_no F g m (by decide +kernel), _, rfl, i, F, n, rfl, hI, hgd.sz, fun H1 s1 => ⟨_, rfl, ?_⟩⟩
    cases q : (F.measurements.any fun m => m.1 == n) with
    | false =>
      refine iteT ?_
      have st := IceM.st_remove_no q
      have k := k.new (by rw [st]) hI
      rw [st] at k
      exact ⟨(by show 1 ≤ sizeLine; decide), fun p hp => k p _ (s1.trans (Same.new hp)) upd_same⟩
    | true =>
      refine iteF ?_
      have hi1 := s1 _ _ hi
      refine ⟨_, rfl, i, _, di, _, _, rfl, hi1, T.cl_Instance, T.n_Instance_measurements, iF_m F g m, _, rfl, m, F.measurements, n, rfl, hM.same s1, by omega, fun p H2 s2 hp => ?_⟩
      have hi2 := s2 _ _ hi1
      refine ⟨_, rfl, i, _, di, _, rfl, hi2, T.cl_Instance, T.n_Instance_measurements, (by show 3 < 1000; decide), ?_⟩
      have e1 : putF "measurements" (.ref p) (iF F g m) = iF { F with measurements := IceM.others F.measurements n } g p := (put_on (by decide +kernel)).trans (congrArg _ ((put_on (by decide +kernel)).trans (congrArg _ put_at)))
      rw [e1]
      have mo : Most H2 (upd H2 i (.ins A.c_Instance di (iF { F with measurements := IceM.others F.measurements n } g p))) i := fun b o e hb => by
        rw [upd_ne hb]
        exact e
      have hi3 : upd H2 i (.ins A.c_Instance di (iF { F with measurements := IceM.others F.measurements n } g p)) i = some (.ins A.c_Instance di (iF { F with measurements := IceM.others F.measurements n } g p)) := upd_same
      generalize upd H2 i (.ins A.c_Instance di (iF { F with measurements := IceM.others F.measurements n } g p)) = H3 at mo hi3 ⊢
      obtain ⟨xs, hx, hxt⟩ := mo.ms hi2 hp
      refine ⟨_, rfl, i, _, di, _, _, rfl, hi3, T.cl_Instance, T.n_Instance_measurements, iF_m _ g p, p, xs, rfl, .inl (SqL.of hx), (by show 1 ≤ sizeLine; decide), fun u hu => ?_⟩
      have s4 := Same.new (o := .lst [.int (xs.length : Int)]) hu
      have st := IceM.st_remove_ok q
      refine k u _ { F with measurements := IceM.others F.measurements n } (by rw [st]) ⟨di, g, p, s4 _ _ hi3, ⟨dg, s4 _ _ (mo _ _ (s2 _ _ (s1 _ _ hg)) (gi_ne hg hi))⟩, MsAt.same ⟨xs, hx, hxt⟩ s4⟩ (fun b o e hb => s4 _ _ (mo _ _ (s2 _ _ (s1 _ _ e)) hb)) ?_
      rw [st, upd_same, hxt.len, IceM.others_one hgd.sz.nd q]
      rfl
def sp_i_list_measurements (A : Ad) : Sp := fun vs H Q _ => ∃ (i : Addr) (F : Fd), vs = [.ref i] ∧ InstAt A H i F ∧ IceM.Good F ∧ New H Q (rs (Km563.step (some F) .listMeasurements).2)
theorem ok_i_list_measurements (T : Txt K mg A) : FnOk P w K mg base CX0 1 A.i_list_measurements.a A.i_list_measurements.d ["self"] (sp_i_list_measurements A) := by
  refine T.f_i_list_measurements.ok sc_i_list_measurements (fun vs H Q E h => ?_) (fun cdv Ar outer s H vs Q E hr h => ?_)
  · obtain ⟨i, F, rfl, _⟩ := h
    rfl
  · obtain ⟨i, F, rfl, ⟨di, g, m, hi, ⟨dg, hg⟩, ⟨xs, hm, ht⟩⟩, hgd, k⟩ := h
    have hl := hgd.sz.len
    refine ⟨_, (pss_cons (ps_set (i := 1) sc_i_list_measurements.nd rfl (Or.inl rfl) (pe_lst (pa_cons (pe_callB call_len_seq (by rfl) T.n_len (by decide +kernel) (pa_cons (pe_fld (pv 0) rfl) pa_nil)) pa_nil)))
      (pss_cons (ps_for PassesOwn.never rfl (pi_list (pe_fld (pv 0) rfl)) (pg_tup rfl (pgs_cons (pg_name (i := 2) sc_i_list_measurements.nd rfl (Or.inl rfl)) (pgs_cons (pg_name (i := 3) sc_i_list_measurements.nd rfl (Or.inl rfl)) pgs_nil))) (pss_one (ps_expr (pe_bm PySem.F.plainAttrs_list PySem.F.slot_list_extend PySem.F.type_list_extend mt_extend (pv 1) (pa_cons (pe_lst (pa_cons (pv 2) (pa_cons (pv 3) pa_nil))) pa_nil)))))
      (pss_one (ps_ret (pv 1))))), ?_⟩
    refine ⟨_, rfl, i, _, di, _, _, rfl, hi, T.cl_Instance, T.n_Instance_measurements, iF_m F g m, m, xs, rfl, .inl (SqL.of hm), (by show 1 ≤ sizeLine; decide), fun p hp => ?_⟩
    have s1 := Same.new (o := .lst [.int (xs.length : Int)]) hp
    have l1 : upd H p (.lst [.int (xs.length : Int)]) p = some (.lst (((F.measurements.length : Int) :: (F.measurements.take 0).flatMap fun q => [(q.1 : Int), (q.2 : Int)]).map V.int)) := by
      rw [upd_same, ht.len]
      rfl
    generalize upd H p (.lst [.int (xs.length : Int)]) = H1 at s1 l1 ⊢
    refine ⟨_, rfl, i, _, di, _, _, rfl, s1 _ _ hi, T.cl_Instance, T.n_Instance_measurements, iF_m F g m, m, rfl, ⟨_, SqL.of (s1 _ _ hm)⟩, ?_⟩
    refine for_list (K := K) (a := m) (xs := xs) (fun j σ H' => ∃ v2 v3 : Option V, σ = [some (.ref i), some (.ref p), v2, v3] ∧ H' p = some (.lst (((F.measurements.length : Int) :: (F.measurements.take j).flatMap fun q => [(q.1 : Int), (q.2 : Int)]).map V.int)) ∧ Same H H')
      ⟨none, none, rfl, l1, s1⟩ (fun j σ H' _ ⟨_, _, _, _, s⟩ => SqL.of (s _ _ hm)) ?_ ?_
    · rintro j x σ H2 hj ⟨v2, v3, rfl, l2, s2⟩
      obtain ⟨o, ho, t, e, hto⟩ := zip_get ht hj
      subst e
      have hjl : j < F.measurements.length := (List.getElem?_eq_some_iff.mp ho).1
      refine ⟨t, _, rfl, SqT.of (s2 _ _ hto), rfl, _, _, rfl, _, _, rfl, rfl, ?_⟩
      refine ⟨_, rfl, .inl ⟨rfl, _, SqL.of l2⟩, _, rfl, _, rfl, (by show 2 ≤ sizeLine; decide), fun u hu => ?_⟩
      have npu : p ≠ u := ne_of_none l2 hu
      refine ⟨p, u, _, _, rfl, rfl, (upd_ne npu).trans l2, upd_same, ?_, ?_⟩
      · rw [List.length_map, List.length_cons]
        have e1 : ((F.measurements.take j).flatMap fun q => [(q.1 : Int), (q.2 : Int)]).length ≤ 2 * j := by
          rw [List.length_flatMap]
          have : ∀ l : List (Nat × Nat), (l.map fun a => ([(a.1 : Int), (a.2 : Int)] : List Int).length).sum = 2 * l.length := by
            intro l
            induction l with
            | nil => rfl
            | cons a r ih =>
              rw [List.map_cons, List.sum_cons, ih]
              show 2 + 2 * r.length = 2 * (r.length + 1)
              omega
          rw [this, List.length_take]
          omega
        exact sz (by show _ + 1 + 2 ≤ 100000; omega)
      · refine ⟨_, _, rfl, ?_, fun b w e => ?_⟩
        · rw [upd_same, take_on ho, List.flatMap_append]
          show some (HO.lst (_ ++ _)) = some (HO.lst _)
          rw [← List.cons_append, List.map_append]
          rfl
        · rw [upd_ne (ne_of_none e hp), upd_ne (ne_of_none (s2 _ _ e) hu)]
          exact s2 _ _ e
    · rintro σ H2 ⟨v2, v3, rfl, l2, s2⟩
      refine ⟨_, rfl, k p H2 s2 (l2.trans ?_)⟩
      rw [ht.len, List.take_length]
      rfl
end
end IceW
set_option linter.all false
set_option maxRecDepth 100000
set_option maxHeartbeats 2000000
/-! The walk, part 5: the instance's methods, second half. -/
namespace IceW
open PySem PySem.Spec PyProof.Rows L2
theorem nts_int {H : Hp} {p : Addr} {l : List Nat} {f : Nat → Int} (g : Nat → Nat) (e : ∀ n, n ∈ l → f n = (g n : Int)) (h : H p = some (.lst (l.map fun n => V.int (f n)))) : H p = some (.lst (nts (l.map g))) := by
  rw [h, nts_map, List.map_map]
  refine congrArg (fun q => some (HO.lst q)) (List.map_congr_left fun n hn => ?_)
  show V.int (f n) = V.int ((g n : Nat) : Int)
  rw [e n hn]
theorem dec_v (a b : Int) : decide (V.int a = V.int b) = (a == b) := L2.dec_int
section
variable {P : Program} {w : World} {K : PySem.W.Frag} {mg : Str → Option Value} {base : Heap} {A : Ad}
def sp_i_lower (A : Ad) : Sp := fun vs H Q _ => ∃ (i : Addr) (F : Fd) (n : Nat), vs = [.ref i, .int (n : Int)] ∧ InstAt A H i F ∧ IceM.Sized F ∧ Pure H Q (.int (Km563.lowerBound F n : Int))
theorem ok_i_lower (T : Txt K mg A) : FnOk P w K mg base CX0 4 A.i_lower.a A.i_lower.d ["self", "cell"] (sp_i_lower A) := by
  refine T.f_i_lower.ok sc_i_lower (fun vs H Q E h => ?_) (fun cdv Ar outer s H vs Q E hr h => ?_)
  · obtain ⟨i, F, n, rfl, _⟩ := h
    rfl
  · obtain ⟨i, F, n, rfl, ⟨di, g, m, hi, hG, hM⟩, hs, k⟩ := h
    refine ⟨_, (pss_one (ps_ret (pe_call (ok_lower_at T) (hr.mono (by decide)) (by rfl) T.g_lower_at T.f_lower_at.kp T.b_lower_at .nil pass0 (pa_cons (pe_fld (pv 0) rfl) (pa_cons (pe_fld (pv 0) rfl) (pa_cons (pe_fld (pv 0) rfl) (pa_cons (pv 1) pa_nil))))))), ?_⟩
    exact ⟨_, rfl, i, _, di, _, _, rfl, hi, T.cl_Instance, T.n_Instance_grid, iF_g F g m, _, rfl, i, _, di, _, _, rfl, hi, T.cl_Instance, T.n_Instance_step, iF_s F g m, _, rfl, i, _, di, _, _, rfl, hi, T.cl_Instance, T.n_Instance_measurements, iF_m F g m, _, rfl, g, F, m, n, rfl, hG, hs, hM, k⟩
def sp_i_upper (A : Ad) : Sp := fun vs H Q _ => ∃ (i : Addr) (F : Fd) (n : Nat), vs = [.ref i, .int (n : Int)] ∧ InstAt A H i F ∧ IceM.Sized F ∧ Pure H Q (.int (Km563.upperBound F n : Int))
theorem ok_i_upper (T : Txt K mg A) : FnOk P w K mg base CX0 4 A.i_upper.a A.i_upper.d ["self", "cell"] (sp_i_upper A) := by
  refine T.f_i_upper.ok sc_i_upper (fun vs H Q E h => ?_) (fun cdv Ar outer s H vs Q E hr h => ?_)
  · obtain ⟨i, F, n, rfl, _⟩ := h
    rfl
  · obtain ⟨i, F, n, rfl, ⟨di, g, m, hi, hG, hM⟩, hs, k⟩ := h
    refine ⟨_, (pss_one (ps_ret (pe_call (ok_upper_at T) (hr.mono (by decide)) (by rfl) T.g_upper_at T.f_upper_at.kp T.b_upper_at .nil pass0 (pa_cons (pe_fld (pv 0) rfl) (pa_cons (pe_fld (pv 0) rfl) (pa_cons (pe_fld (pv 0) rfl) (pa_cons (pv 1) pa_nil))))))), ?_⟩
    exact ⟨_, rfl, i, _, di, _, _, rfl, hi, T.cl_Instance, T.n_Instance_grid, iF_g F g m, _, rfl, i, _, di, _, _, rfl, hi, T.cl_Instance, T.n_Instance_step, iF_s F g m, _, rfl, i, _, di, _, _, rfl, hi, T.cl_Instance, T.n_Instance_measurements, iF_m F g m, _, rfl, g, F, m, n, rfl, hG, hs, hM, k⟩
def sp_i_uncertainty (A : Ad) : Sp := fun vs H Q _ => ∃ (i : Addr) (F : Fd) (n : Nat), vs = [.ref i, .int (n : Int)] ∧ InstAt A H i F ∧ IceM.Sized F ∧ Pure H Q (.int (IceM.unc F n))
theorem ok_i_uncertainty (T : Txt K mg A) : FnOk P w K mg base CX0 5 A.i_uncertainty.a A.i_uncertainty.d ["self", "cell"] (sp_i_uncertainty A) := by
  refine T.f_i_uncertainty.ok sc_i_uncertainty (fun vs H Q E h => ?_) (fun cdv Ar outer s H vs Q E hr h => ?_)
  · obtain ⟨i, F, n, rfl, _⟩ := h
    rfl
  · obtain ⟨i, F, n, rfl, ⟨di, g, m, hi, hG, hM⟩, hs, k⟩ := h
    refine ⟨_, (pss_one (ps_ret (pe_call (ok_uncertainty_at T) (hr.mono (by decide)) (by rfl) T.g_uncertainty_at T.f_uncertainty_at.kp T.b_uncertainty_at .nil pass0 (pa_cons (pe_fld (pv 0) rfl) (pa_cons (pe_fld (pv 0) rfl) (pa_cons (pe_fld (pv 0) rfl) (pa_cons (pv 1) pa_nil))))))), ?_⟩
    exact ⟨_, rfl, i, _, di, _, _, rfl, hi, T.cl_Instance, T.n_Instance_grid, iF_g F g m, _, rfl, i, _, di, _, _, rfl, hi, T.cl_Instance, T.n_Instance_step, iF_s F g m, _, rfl, i, _, di, _, _, rfl, hi, T.cl_Instance, T.n_Instance_measurements, iF_m F g m, _, rfl, g, F, m, n, rfl, hG, hs, hM, k⟩
def sp_i_lower_bounds (A : Ad) : Sp := fun vs H Q _ => ∃ (i : Addr) (F : Fd), vs = [.ref i] ∧ InstAt A H i F ∧ IceM.Sized F ∧ New H Q (nts ((List.range (Km563.cellCount F)).map fun n => Km563.lowerBound F n))
theorem ok_i_lower_bounds (T : Txt K mg A) : FnOk P w K mg base CX0 5 A.i_lower_bounds.a A.i_lower_bounds.d ["self"] (sp_i_lower_bounds A) := by
  refine T.f_i_lower_bounds.ok sc_i_lower_bounds (fun vs H Q E h => ?_) (fun cdv Ar outer s H vs Q E hr h => ?_)
  · obtain ⟨i, F, rfl, _⟩ := h
    rfl
  · obtain ⟨i, F, rfl, hI, hs, k⟩ := h
    obtain ⟨di, g, m, hi, ⟨dg, hg⟩, hM⟩ := hI
    have hI : InstAt A H i F := ⟨di, g, m, hi, ⟨dg, hg⟩, hM⟩
    have hc : Km563.cellCount F ≤ 25 := IceM.cc_le hs
    refine ⟨_, (pss_one (ps_ret (pe_lc (own := [("cell", 1)]) (g := gName 1) rfl sc_i_lower_bounds.nd (pi_list (pe_meth0 (pe_fld (pv 0) rfl) T.cl_Grid T.m_g_cells (ok_g_cells T) (hr.mono (by decide)) T.b_g_cells .nil pass0)) (blkOk_by (own := [("cell", 1)]) (N := ["self", "cell"]) (sc := defScope s_i_lower_bounds) (by decide +kernel)) (fun _ _ _ _ _ => pg_name (i := 1) sc_i_lower_bounds.nd rfl (Or.inl rfl)) (fun _ _ _ _ _ => pts_nil) (fun _ _ _ _ _ => (pe_meth (pv 0) T.cl_Instance T.m_i_lower (ok_i_lower T) (hr.mono (by decide)) T.b_i_lower .nil pass0 (pa_cons (pv 1) pa_nil)))))), ?_⟩
    refine ⟨_, rfl, i, _, di, _, _, rfl, hi, T.cl_Instance, T.n_Instance_grid, iF_g F g m, g, dg, _, rfl, hg, gF_no F (by decide +kernel) (by decide +kernel), g, F, rfl, ⟨dg, hg⟩, hs, fun p H0 s0 hp => ⟨p, rfl, ⟨_, SqL.of hp⟩, fun D hD => ?_⟩⟩
    refine lc_all (List.range (Km563.cellCount F)) (fun n => .int (n : Int)) (fun n => .int (Km563.lowerBound F n : Int)) (fun n => [some (.ref i), some (.int (n : Int))]) hD (by rw [← nts_map]; exact SqL.of hp) (by rw [List.length_range]; omega) (fun y hy H1 s1 => ⟨fun _ h => h, rfl⟩) ?_ ?_
    · intro n hn H1 s1 Kq k1
      exact ⟨_, rfl, i, di, _, rfl, s1 _ _ (s0 _ _ hi), iF_no F g m (by decide +kernel), _, rfl, i, F, n, rfl, hI.same (s0.trans s1), hs, k1⟩
    · intro H1 s1 hD1
      exact k D H1 (s0.trans s1) (nts_int (fun n => Km563.lowerBound F n) (fun n _ => rfl) hD1)
def sp_i_upper_bounds (A : Ad) : Sp := fun vs H Q _ => ∃ (i : Addr) (F : Fd), vs = [.ref i] ∧ InstAt A H i F ∧ IceM.Sized F ∧ New H Q (nts ((List.range (Km563.cellCount F)).map fun n => Km563.upperBound F n))
theorem ok_i_upper_bounds (T : Txt K mg A) : FnOk P w K mg base CX0 5 A.i_upper_bounds.a A.i_upper_bounds.d ["self"] (sp_i_upper_bounds A) := by
  refine T.f_i_upper_bounds.ok sc_i_upper_bounds (fun vs H Q E h => ?_) (fun cdv Ar outer s H vs Q E hr h => ?_)
  · obtain ⟨i, F, rfl, _⟩ := h
    rfl
  · obtain ⟨i, F, rfl, hI, hs, k⟩ := h
    obtain ⟨di, g, m, hi, ⟨dg, hg⟩, hM⟩ := hI
    have hI : InstAt A H i F := ⟨di, g, m, hi, ⟨dg, hg⟩, hM⟩
    have hc : Km563.cellCount F ≤ 25 := IceM.cc_le hs
    refine ⟨_, (pss_one (ps_ret (pe_lc (own := [("cell", 1)]) (g := gName 1) rfl sc_i_upper_bounds.nd (pi_list (pe_meth0 (pe_fld (pv 0) rfl) T.cl_Grid T.m_g_cells (ok_g_cells T) (hr.mono (by decide)) T.b_g_cells .nil pass0)) (blkOk_by (own := [("cell", 1)]) (N := ["self", "cell"]) (sc := defScope s_i_upper_bounds) (by decide +kernel)) (fun _ _ _ _ _ => pg_name (i := 1) sc_i_upper_bounds.nd rfl (Or.inl rfl)) (fun _ _ _ _ _ => pts_nil) (fun _ _ _ _ _ => (pe_meth (pv 0) T.cl_Instance T.m_i_upper (ok_i_upper T) (hr.mono (by decide)) T.b_i_upper .nil pass0 (pa_cons (pv 1) pa_nil)))))), ?_⟩
    refine ⟨_, rfl, i, _, di, _, _, rfl, hi, T.cl_Instance, T.n_Instance_grid, iF_g F g m, g, dg, _, rfl, hg, gF_no F (by decide +kernel) (by decide +kernel), g, F, rfl, ⟨dg, hg⟩, hs, fun p H0 s0 hp => ⟨p, rfl, ⟨_, SqL.of hp⟩, fun D hD => ?_⟩⟩
    refine lc_all (List.range (Km563.cellCount F)) (fun n => .int (n : Int)) (fun n => .int (Km563.upperBound F n : Int)) (fun n => [some (.ref i), some (.int (n : Int))]) hD (by rw [← nts_map]; exact SqL.of hp) (by rw [List.length_range]; omega) (fun y hy H1 s1 => ⟨fun _ h => h, rfl⟩) ?_ ?_
    · intro n hn H1 s1 Kq k1
      exact ⟨_, rfl, i, di, _, rfl, s1 _ _ (s0 _ _ hi), iF_no F g m (by decide +kernel), _, rfl, i, F, n, rfl, hI.same (s0.trans s1), hs, k1⟩
    · intro H1 s1 hD1
      exact k D H1 (s0.trans s1) (nts_int (fun n => Km563.upperBound F n) (fun n _ => rfl) hD1)
def sp_i_is_possible (A : Ad) : Sp := fun vs H Q _ => ∃ (i : Addr) (F : Fd) (n t : Nat), vs = [.ref i, .int (n : Int), .int (t : Int)] ∧ InstAt A H i F ∧ IceM.Good F ∧ New H Q (rs (Km563.step (some F) (.isPossible n t)).2)
theorem ok_i_is_possible (T : Txt K mg A) : FnOk P w K mg base CX0 5 A.i_is_possible.a A.i_is_possible.d ["self", "cell", "thickness"] (sp_i_is_possible A) := by
  refine T.f_i_is_possible.ok sc_i_is_possible (fun vs H Q E h => ?_) (fun cdv Ar outer s H vs Q E hr h => ?_)
  · obtain ⟨i, F, n, t, rfl, _⟩ := h
    rfl
  · obtain ⟨i, F, n, t, rfl, hI, hgd, k⟩ := h
    obtain ⟨di, g, m, hi, ⟨dg, hg⟩, hM⟩ := hI
    have hI : InstAt A H i F := ⟨di, g, m, hi, ⟨dg, hg⟩, hM⟩
    have hs := hgd.sz
    refine ⟨_, (pss_cons (ps_if (pt_not (pt_val (pe_meth (pe_fld (pv 0) rfl) T.cl_Grid T.m_g_has_cell (ok_g_has_cell T) (hr.mono (by decide)) T.b_g_has_cell .nil pass0 (pa_cons (pv 1) pa_nil)))) (pss_one (ps_ret (pe_lst (pa_cons (pe_k (by rfl) T.k_NO_CELL) pa_nil)))) pss_nil)
      (pss_cons (ps_if (pt_cmpR op_gt (pv 2) (pe_k (by rfl) T.k_MOST_THICKNESS) (nomark _)) (pss_one (ps_ret (pe_lst (pa_cons (pe_k (by rfl) T.k_OUTSIDE) pa_nil)))) pss_nil)
      (pss_one (ps_ret (pe_lst (pa_cons (pe_callTy call_int1 (by rfl) T.n_int (by decide +kernel) (pa_cons (pe_chain op_le op_le (pe_meth (pv 0) T.cl_Instance T.m_i_lower (ok_i_lower T) (hr.mono (by decide)) T.b_i_lower .nil pass0 (pa_cons (pv 1) pa_nil)) (pv 2) (pe_meth (pv 0) T.cl_Instance T.m_i_upper (ok_i_upper T) (hr.mono (by decide)) T.b_i_upper .nil pass0 (pa_cons (pv 1) pa_nil))) pa_nil)) pa_nil)))))), ?_⟩
    refine ⟨_, rfl, i, _, di, _, _, rfl, hi, T.cl_Instance, T.n_Instance_grid, iF_g F g m, g, dg, _, rfl, hg, gF_no F (by decide +kernel) (by decide +kernel), _, rfl, g, F, n, rfl, ⟨dg, hg⟩, hs, _, rfl, ?_⟩
    by_cases q : n < Km563.cellCount F
    · rw [decide_eq_true q]
      refine iteF ?_
      refine ⟨_, rfl, _, _, rfl, rfl, _, rfl, ?_⟩
      by_cases q2 : 99 < t
      · rw [decide_eq_true (show (99 : Int) < (t : Int) by omega)]
        rw [IceM.st_possible_out (by omega) q2] at k
        exact iteT ⟨(by show 1 ≤ sizeLine; decide), fun p hp => k p _ (Same.new hp) upd_same⟩
      · rw [decide_eq_false (show ¬ (99 : Int) < (t : Int) by omega)]
        rw [IceM.st_possible_ok hgd (by omega) q2] at k
        refine iteF ?_
        refine ⟨_, rfl, i, di, _, rfl, hi, iF_no F g m (by decide +kernel), _, rfl, i, F, n, rfl, hI, hs, fun H1 s1 => ⟨_, rfl, _, _, rfl, rfl, _, rfl, ?_⟩⟩
        by_cases c1 : Km563.lowerBound F n ≤ t
        · rw [decide_eq_true (show (Km563.lowerBound F n : Int) ≤ (t : Int) by omega)]
          refine iteT ?_
          refine ⟨_, rfl, i, di, _, rfl, s1 _ _ hi, iF_no F g m (by decide +kernel), _, rfl, i, F, n, rfl, hI.same s1, hs, fun H2 s2 => ⟨_, _, rfl, rfl, .inr ⟨_, rfl, (by show 1 ≤ sizeLine; decide), fun p hp => ?_⟩⟩⟩
          refine k p _ (s1.trans (s2.trans (Same.new hp))) (upd_same.trans ?_)
          by_cases c2 : t ≤ Km563.upperBound F n
          · rw [decide_eq_true (show (t : Int) ≤ (Km563.upperBound F n : Int) by omega), decide_eq_true (show Km563.lowerBound F n ≤ t ∧ t ≤ Km563.upperBound F n from ⟨c1, c2⟩)]
            rfl
          · rw [decide_eq_false (show ¬ (t : Int) ≤ (Km563.upperBound F n : Int) by omega), decide_eq_false (show ¬ (Km563.lowerBound F n ≤ t ∧ t ≤ Km563.upperBound F n) from fun z => c2 z.2)]
            rfl
        · rw [decide_eq_false (show ¬ (Km563.lowerBound F n : Int) ≤ (t : Int) by omega)]
          refine iteF ?_
          refine .inr ⟨_, rfl, (by show 1 ≤ sizeLine; decide), fun p hp => ?_⟩
          refine k p _ (s1.trans (Same.new hp)) (upd_same.trans ?_)
          rw [decide_eq_false (show ¬ (Km563.lowerBound F n ≤ t ∧ t ≤ Km563.upperBound F n) from fun z => c1 z.1)]
          rfl
    · rw [decide_eq_false q]
      rw [IceM.st_possible_cell (by omega)] at k
      exact iteT ⟨(by show 1 ≤ sizeLine; decide), fun p hp => k p _ (Same.new hp) upd_same⟩
def sp_i_most_uncertain_cell (A : Ad) : Sp := fun vs H Q _ => ∃ (i : Addr) (F : Fd), vs = [.ref i] ∧ InstAt A H i F ∧ IceM.Good F ∧ New H Q (rs (Km563.step (some F) .mostUncertainCell).2)
theorem ok_i_most_uncertain_cell (T : Txt K mg A) : FnOk P w K mg base CX0 6 A.i_most_uncertain_cell.a A.i_most_uncertain_cell.d ["self"] (sp_i_most_uncertain_cell A) := by
  refine T.f_i_most_uncertain_cell.ok sc_i_most_uncertain_cell (fun vs H Q E h => ?_) (fun cdv Ar outer s H vs Q E hr h => ?_)
  · obtain ⟨i, F, rfl, _⟩ := h
    rfl
  · obtain ⟨i, F, rfl, hI, hgd, k⟩ := h
    obtain ⟨di, g, m, hi, ⟨dg, hg⟩, hM⟩ := hI
    have hI : InstAt A H i F := ⟨di, g, m, hi, ⟨dg, hg⟩, hM⟩
    have hs := hgd.sz
    have hc : Km563.cellCount F ≤ 25 := IceM.cc_le hs
    have hc1 : 1 ≤ Km563.cellCount F := IceM.cc_pos hs
    refine ⟨_, (pss_cons (ps_setLc (i := 1) (own := [("cell", 2)]) (g := gName 2) rfl sc_i_most_uncertain_cell.nd rfl rfl (sw_true rfl rfl rfl (by decide +kernel)) (pi_list (pe_meth0 (pe_fld (pv 0) rfl) T.cl_Grid T.m_g_cells (ok_g_cells T) (hr.mono (by decide)) T.b_g_cells .nil pass0)) (blkOk_by (own := [("cell", 2)]) (N := ["self", "amounts", "cell"]) (sc := defScope s_i_most_uncertain_cell) (by decide +kernel)) (fun _ _ _ _ _ => pg_name (i := 2) sc_i_most_uncertain_cell.nd rfl (Or.inl rfl)) (fun _ _ _ _ _ => pts_nil) (fun _ _ _ _ _ => (pe_meth (pv 0) T.cl_Instance T.m_i_uncertainty (ok_i_uncertainty T) (hr.mono (by decide)) T.b_i_uncertainty .nil pass0 (pa_cons (pv 2) pa_nil))))
      (pss_one (ps_ret (pe_lst (pa_cons (pe_bm PySem.F.plainAttrs_list PySem.F.slot_list_index PySem.F.type_list_index mt_index (pv 1) (pa_cons (pe_callB (cr_max rfl) (by rfl) T.n_max (by decide +kernel) (pa_cons (pv 1) pa_nil)) pa_nil)) (pa_cons (pe_callB (cr_max rfl) (by rfl) T.n_max (by decide +kernel) (pa_cons (pv 1) pa_nil)) pa_nil)))))), ?_⟩
    refine ⟨_, rfl, i, _, di, _, _, rfl, hi, T.cl_Instance, T.n_Instance_grid, iF_g F g m, g, dg, _, rfl, hg, gF_no F (by decide +kernel) (by decide +kernel), g, F, rfl, ⟨dg, hg⟩, hs, fun p H0 s0 hp => ⟨p, rfl, ⟨_, SqL.of hp⟩, fun D hD => ?_⟩⟩
    refine lc_all (List.range (Km563.cellCount F)) (fun n => .int (n : Int)) (fun n => .int (IceM.unc F n)) (fun n => [some (.ref i), none, some (.int (n : Int))]) hD (by rw [← nts_map]; exact SqL.of hp) (by rw [List.length_range]; omega) (fun y hy H1 s1 => ⟨fun _ h => h, rfl⟩) ?_ ?_
    · intro n hn H1 s1 Kq k1
      exact ⟨_, rfl, i, di, _, rfl, s1 _ _ (s0 _ _ hi), iF_no F g m (by decide +kernel), _, rfl, i, F, n, rfl, hI.same (s0.trans s1), hs, k1⟩
    · intro H1 s1 hD1
      have hD2 := nts_int (fun n => Km563.uncertainty F n) (fun n _ => IceM.unc_is hgd n) hD1
      have e1 : (List.range (Km563.cellCount F)).map (fun n => V.int (IceM.unc F n)) = ((List.range (Km563.cellCount F)).map fun n => IceM.unc F n).map V.int := by
        rw [List.map_map]
        rfl
      have hl : SqL K H1 D (((List.range (Km563.cellCount F)).map fun n => IceM.unc F n).map V.int) := SqL.of (hD1.trans (by rw [e1]))
      have hpos : 0 < ((List.range (Km563.cellCount F)).map fun n => IceM.unc F n).length := by
        rw [List.length_map, List.length_range]
        omega
      obtain ⟨m1, m2, m3⟩ := IceM.most_is F
      refine ⟨_, rfl, .inl ⟨rfl, _, SqL.of hD1⟩, _, rfl, D, _, rfl, hl, hpos, fun x hx hle => ?_⟩
      have ex := IceM.max_most hgd hx hle
      subst ex
      refine ⟨D, _, _, Km563.mostUncertainCell F, .int (Km563.uncertainty F (Km563.mostUncertainCell F) : Int), rfl, rfl, SqL.of hD2, rfl, flat_nts _, ?_, ?_, ?_, ?_⟩
      · rw [nts_map, List.getElem?_map, List.getElem?_map, List.getElem?_range (m3 (by omega))]
        rfl
      · show ((Km563.uncertainty F (Km563.mostUncertainCell F) : Int) == (Km563.uncertainty F (Km563.mostUncertainCell F) : Int)) = true
        exact beq_self_eq_true _
      · intro j z' hj hz
        obtain ⟨u, hu, rfl⟩ := nts_get hz
        rw [List.getElem?_map, List.getElem?_range (Nat.lt_trans hj (m3 (by omega)))] at hu
        cases hu
        have := m2 j hj
        show ((Km563.uncertainty F j : Int) == (Km563.uncertainty F (Km563.mostUncertainCell F) : Int)) = false
        rw [beq_eq_false_iff_ne]
        omega
      · refine ⟨_, rfl, D, _, rfl, hl, hpos, fun x hx hle => ⟨(by show 2 ≤ sizeLine; decide), fun p2 hp2 => ?_⟩⟩
        have ex := IceM.max_most hgd hx hle
        subst ex
        exact k p2 _ (s0.trans (s1.trans (Same.new hp2))) upd_same
def sp_i_status_of (A : Ad) : Sp := fun vs H Q _ => ∃ (i : Addr) (F : Fd) (r n : Nat), vs = [.ref i, .int (r : Int), .int (n : Int)] ∧ InstAt A H i F ∧ IceM.Sized F ∧ Pure H Q (.int (IceM.stat F r n))
theorem ok_i_status_of (T : Txt K mg A) : FnOk P w K mg base CX0 5 A.i_status_of.a A.i_status_of.d ["self", "required", "cell"] (sp_i_status_of A) := by
  refine T.f_i_status_of.ok sc_i_status_of (fun vs H Q E h => ?_) (fun cdv Ar outer s H vs Q E hr h => ?_)
  · obtain ⟨i, F, r, n, rfl, _⟩ := h
    rfl
  · obtain ⟨i, F, r, n, rfl, hI, hs, k⟩ := h
    obtain ⟨di, g, m, hi, ⟨dg, hg⟩, hM⟩ := hI
    have hI : InstAt A H i F := ⟨di, g, m, hi, ⟨dg, hg⟩, hM⟩
    refine ⟨_, (pss_cons (ps_if (pt_cmpR op_ge (pe_meth (pv 0) T.cl_Instance T.m_i_lower (ok_i_lower T) (hr.mono (by decide)) T.b_i_lower .nil pass0 (pa_cons (pv 2) pa_nil)) (pv 1) (nomark _)) (pss_one (ps_ret (pe_k (by rfl) T.k_SAFE))) pss_nil)
      (pss_one (ps_ret (pe_ifExp (pt_cmpR op_le (pv 1) (pe_meth (pv 0) T.cl_Instance T.m_i_upper (ok_i_upper T) (hr.mono (by decide)) T.b_i_upper .nil pass0 (pa_cons (pv 2) pa_nil)) (nomark _)) (pe_k (by rfl) T.k_UNCERTAIN) pe_int)))), ?_⟩
    refine ⟨_, rfl, i, di, _, rfl, hi, iF_no F g m (by decide +kernel), _, rfl, i, F, n, rfl, hI, hs, fun H1 s1 => ⟨_, rfl, _, _, rfl, rfl, _, rfl, ?_⟩⟩
    unfold IceM.stat at k
    by_cases q : r ≤ Km563.lowerBound F n
    · rw [if_pos q] at k
      rw [decide_eq_true (show (r : Int) ≤ (Km563.lowerBound F n : Int) by omega)]
      exact iteT (k H1 s1)
    · rw [if_neg q] at k
      rw [decide_eq_false (show ¬ (r : Int) ≤ (Km563.lowerBound F n : Int) by omega)]
      refine iteF ?_
      refine ⟨_, rfl, _, rfl, i, di, _, rfl, s1 _ _ hi, iF_no F g m (by decide +kernel), _, rfl, i, F, n, rfl, hI.same s1, hs, fun H2 s2 => ⟨_, _, rfl, rfl, _, rfl, ?_⟩⟩
      by_cases q2 : r ≤ Km563.upperBound F n
      · rw [if_pos q2] at k
        rw [decide_eq_true (show (r : Int) ≤ (Km563.upperBound F n : Int) by omega)]
        exact iteT (k H2 (s1.trans s2))
      · rw [if_neg q2] at k
        rw [decide_eq_false (show ¬ (r : Int) ≤ (Km563.upperBound F n : Int) by omega)]
        exact iteF (k H2 (s1.trans s2))
def sp_i_check_cell (A : Ad) : Sp := fun vs H Q _ => ∃ (i : Addr) (F : Fd) (r n : Nat), vs = [.ref i, .int (r : Int), .int (n : Int)] ∧ InstAt A H i F ∧ IceM.Sized F ∧ New H Q (rs (Km563.step (some F) (.checkCell r n)).2)
theorem ok_i_check_cell (T : Txt K mg A) : FnOk P w K mg base CX0 6 A.i_check_cell.a A.i_check_cell.d ["self", "required", "cell"] (sp_i_check_cell A) := by
  refine T.f_i_check_cell.ok sc_i_check_cell (fun vs H Q E h => ?_) (fun cdv Ar outer s H vs Q E hr h => ?_)
  · obtain ⟨i, F, r, n, rfl, _⟩ := h
    rfl
  · obtain ⟨i, F, r, n, rfl, hI, hs, k⟩ := h
    obtain ⟨di, g, m, hi, ⟨dg, hg⟩, hM⟩ := hI
    have hI : InstAt A H i F := ⟨di, g, m, hi, ⟨dg, hg⟩, hM⟩
    refine ⟨_, (pss_cons (ps_if (pt_not (pt_val (pe_meth (pe_fld (pv 0) rfl) T.cl_Grid T.m_g_has_cell (ok_g_has_cell T) (hr.mono (by decide)) T.b_g_has_cell .nil pass0 (pa_cons (pv 2) pa_nil)))) (pss_one (ps_ret (pe_lst (pa_cons (pe_k (by rfl) T.k_NO_CELL) pa_nil)))) pss_nil)
      (pss_one (ps_ret (pe_ifExp (pt_cmpR op_le (pv 1) (pe_k (by rfl) T.k_MOST_THICKNESS) (nomark _)) (pe_lst (pa_cons (pe_meth (pv 0) T.cl_Instance T.m_i_status_of (ok_i_status_of T) (hr.mono (by decide)) T.b_i_status_of .nil pass0 (pa_cons (pv 1) (pa_cons (pv 2) pa_nil))) pa_nil)) (pe_lst (pa_cons (pe_k (by rfl) T.k_OUTSIDE) pa_nil)))))), ?_⟩
    refine ⟨_, rfl, i, _, di, _, _, rfl, hi, T.cl_Instance, T.n_Instance_grid, iF_g F g m, g, dg, _, rfl, hg, gF_no F (by decide +kernel) (by decide +kernel), _, rfl, g, F, n, rfl, ⟨dg, hg⟩, hs, _, rfl, ?_⟩
    by_cases q : n < Km563.cellCount F
    · rw [decide_eq_true q]
      refine iteF ?_
      refine ⟨_, rfl, _, _, rfl, rfl, _, rfl, ?_⟩
      by_cases q2 : 99 < r
      · rw [decide_eq_false (show ¬ (r : Int) ≤ (99 : Int) by omega)]
        rw [IceM.st_check_out (by omega) q2] at k
        exact iteF ⟨(by show 1 ≤ sizeLine; decide), fun p hp => k p _ (Same.new hp) upd_same⟩
      · rw [decide_eq_true (show (r : Int) ≤ (99 : Int) by omega)]
        rw [IceM.st_check_ok (by omega) q2] at k
        refine iteT ?_
        exact ⟨_, rfl, i, di, _, rfl, hi, iF_no F g m (by decide +kernel), _, rfl, _, rfl, i, F, r, n, rfl, hI, hs, fun H1 s1 => ⟨(by show 1 ≤ sizeLine; decide), fun p hp => k p _ (s1.trans (Same.new hp)) upd_same⟩⟩
    · rw [decide_eq_false q]
      rw [IceM.st_check_cell (by omega)] at k
      exact iteT ⟨(by show 1 ≤ sizeLine; decide), fun p hp => k p _ (Same.new hp) upd_same⟩
def withSt (F : Fd) (r : Nat) (st : Int) : List Nat := (List.range (Km563.cellCount F)).filter fun c => IceM.stat F r c == st
theorem withSt_len {F : Fd} (hs : IceM.Sized F) (r : Nat) (st : Int) : (withSt F r st).length ≤ 25 := by
  unfold withSt
  have h1 := List.length_filter_le (fun c => IceM.stat F r c == st) (List.range (Km563.cellCount F))
  rw [List.length_range] at h1
  have h2 : Km563.cellCount F ≤ 25 := IceM.cc_le hs
  omega
def sp_i_cells_with (A : Ad) : Sp := fun vs H Q _ => ∃ (i : Addr) (F : Fd) (r : Nat) (st : Int), vs = [.ref i, .int (r : Int), .int st] ∧ InstAt A H i F ∧ IceM.Sized F ∧ New H Q (nts (withSt F r st))
theorem ok_i_cells_with (T : Txt K mg A) : FnOk P w K mg base CX0 6 A.i_cells_with.a A.i_cells_with.d ["self", "required", "status"] (sp_i_cells_with A) := by
  refine T.f_i_cells_with.ok sc_i_cells_with (fun vs H Q E h => ?_) (fun cdv Ar outer s H vs Q E hr h => ?_)
  · obtain ⟨i, F, r, st, rfl, _⟩ := h
    rfl
  · obtain ⟨i, F, r, st, rfl, hI, hs, k⟩ := h
    obtain ⟨di, g, m, hi, ⟨dg, hg⟩, hM⟩ := hI
    have hI : InstAt A H i F := ⟨di, g, m, hi, ⟨dg, hg⟩, hM⟩
    have hc : Km563.cellCount F ≤ 25 := IceM.cc_le hs
    refine ⟨_, (pss_one (ps_ret (pe_lc (own := [("cell", 3)]) (g := gName 3) rfl sc_i_cells_with.nd (pi_list (pe_meth0 (pe_fld (pv 0) rfl) T.cl_Grid T.m_g_cells (ok_g_cells T) (hr.mono (by decide)) T.b_g_cells .nil pass0)) (blkOk_by (own := [("cell", 3)]) (N := ["self", "required", "status", "cell"]) (sc := defScope s_i_cells_with) (by decide +kernel)) (fun _ _ _ _ _ => pg_name (i := 3) sc_i_cells_with.nd rfl (Or.inl rfl)) (fun _ _ _ _ _ => pts_one (pt_cmpR op_eq (pe_meth (pv 0) T.cl_Instance T.m_i_status_of (ok_i_status_of T) (hr.mono (by decide)) T.b_i_status_of .nil pass0 (pa_cons (pv 1) (pa_cons (pv 3) pa_nil))) (pv 2) (nomark _))) (fun _ _ _ _ _ => (pv 3))))), ?_⟩
    refine ⟨_, rfl, i, _, di, _, _, rfl, hi, T.cl_Instance, T.n_Instance_grid, iF_g F g m, g, dg, _, rfl, hg, gF_no F (by decide +kernel) (by decide +kernel), g, F, rfl, ⟨dg, hg⟩, hs, fun p H0 s0 hp => ⟨p, rfl, ⟨_, SqL.of hp⟩, fun D hD => ?_⟩⟩
    refine lc_its (List.range (Km563.cellCount F)) (fun n => .int (n : Int)) (fun c => IceM.stat F r c == st) (fun n => .int (n : Int)) (fun n => [some (.ref i), some (.int (r : Int)), some (.int st), some (.int (n : Int))]) hD (by rw [← nts_map]; exact SqL.of hp) (by rw [List.length_range]; omega) (fun y hy H1 s1 => ⟨fun _ h => h, rfl, fun Kb kb => ?_⟩) ?_ ?_
    · refine ⟨_, rfl, i, di, _, rfl, s1 _ _ (s0 _ _ hi), iF_no F g m (by decide +kernel), _, rfl, _, rfl, i, F, r, y, rfl, hI.same (s0.trans s1), hs, fun H2 s2 => ⟨_, rfl, rfl, _, rfl, ?_⟩⟩
      rw [dec_v]
      exact kb H2 s2
    · intro n hn _ H1 s1 Kq k1
      exact ⟨_, rfl, k1 H1 (Same.refl H1)⟩
    · intro H1 s1 hD1
      exact k D H1 (s0.trans s1) (hD1.trans (by rw [← nts_map]; rfl))
def sp_i_listed_cells (A : Ad) : Sp := fun vs H Q _ => ∃ (i : Addr) (F : Fd) (r : Nat) (st : Int), vs = [.ref i, .int (r : Int), .int st] ∧ InstAt A H i F ∧ IceM.Sized F ∧ (99 < r → New H Q [.int (-22)]) ∧ (¬ 99 < r → New H Q (rs (Km563.listResult (withSt F r st))))
theorem ok_i_listed_cells (T : Txt K mg A) : FnOk P w K mg base CX0 7 A.i_listed_cells.a A.i_listed_cells.d ["self", "required", "status"] (sp_i_listed_cells A) := by
  refine T.f_i_listed_cells.ok sc_i_listed_cells (fun vs H Q E h => ?_) (fun cdv Ar outer s H vs Q E hr h => ?_)
  · obtain ⟨i, F, r, st, rfl, _⟩ := h
    rfl
  · obtain ⟨i, F, r, st, rfl, hI, hs, k1, k2⟩ := h
    obtain ⟨di, g, m, hi, ⟨dg, hg⟩, hM⟩ := hI
    have hI : InstAt A H i F := ⟨di, g, m, hi, ⟨dg, hg⟩, hM⟩
    refine ⟨_, (pss_one (ps_ret (pe_ifExp (pt_cmpR op_le (pv 1) (pe_k (by rfl) T.k_MOST_THICKNESS) (nomark _)) (pe_call (ok_counted T) (hr.mono (by decide)) (by rfl) T.g_counted T.f_counted.kp T.b_counted .nil pass0 (pa_cons (pe_meth (pv 0) T.cl_Instance T.m_i_cells_with (ok_i_cells_with T) (hr.mono (by decide)) T.b_i_cells_with .nil pass0 (pa_cons (pv 1) (pa_cons (pv 2) pa_nil))) pa_nil)) (pe_lst (pa_cons (pe_k (by rfl) T.k_OUTSIDE) pa_nil))))), ?_⟩
    refine ⟨_, rfl, _, _, rfl, rfl, _, rfl, ?_⟩
    by_cases q2 : 99 < r
    · rw [decide_eq_false (show ¬ (r : Int) ≤ (99 : Int) by omega)]
      exact iteF ⟨(by show 1 ≤ sizeLine; decide), fun p hp => k1 q2 p _ (Same.new hp) upd_same⟩
    · rw [decide_eq_true (show (r : Int) ≤ (99 : Int) by omega)]
      refine iteT ?_
      refine ⟨_, rfl, i, di, _, rfl, hi, iF_no F g m (by decide +kernel), _, rfl, _, rfl, i, F, r, st, rfl, hI, hs, fun p H1 s1 hp => ⟨p, _, rfl, hp, ?_, fun p2 H2 s2 hp2 => ?_⟩⟩
      · rw [nts_len]
        have := withSt_len hs r st
        omega
      · rw [nts_len] at hp2
        exact k2 q2 p2 H2 (s1.trans s2) hp2
def sp_i_have_cells (A : Ad) : Sp := fun vs H Q _ => ∃ (i : Addr) (F : Fd) (o t : Nat), vs = [.ref i, .int (o : Int), .int (t : Int)] ∧ InstAt A H i F ∧ IceM.Sized F ∧ Q (.bl (decide (o < Km563.cellCount F) && decide (t < Km563.cellCount F))) H
theorem ok_i_have_cells (T : Txt K mg A) : FnOk P w K mg base CX0 2 A.i_have_cells.a A.i_have_cells.d ["self", "origin", "target"] (sp_i_have_cells A) := by
  refine T.f_i_have_cells.ok sc_i_have_cells (fun vs H Q E h => ?_) (fun cdv Ar outer s H vs Q E hr h => ?_)
  · obtain ⟨i, F, o, t, rfl, _⟩ := h
    rfl
  · obtain ⟨i, F, o, t, rfl, ⟨di, g, m, hi, ⟨dg, hg⟩, hM⟩, hs, k⟩ := h
    refine ⟨_, (pss_one (ps_ret (pe_and (pe_meth (pe_fld (pv 0) rfl) T.cl_Grid T.m_g_has_cell (ok_g_has_cell T) (hr.mono (by decide)) T.b_g_has_cell .nil pass0 (pa_cons (pv 1) pa_nil)) (pe_one (pe_meth (pe_fld (pv 0) rfl) T.cl_Grid T.m_g_has_cell (ok_g_has_cell T) (hr.mono (by decide)) T.b_g_has_cell .nil pass0 (pa_cons (pv 2) pa_nil)))))), ?_⟩
    refine ⟨_, rfl, i, _, di, _, _, rfl, hi, T.cl_Instance, T.n_Instance_grid, iF_g F g m, g, dg, _, rfl, hg, gF_no F (by decide +kernel) (by decide +kernel), _, rfl, g, F, o, rfl, ⟨dg, hg⟩, hs, _, rfl, ?_⟩
    by_cases q : o < Km563.cellCount F
    · rw [decide_eq_true q, Bool.true_and] at k
      rw [decide_eq_true q]
      refine iteT ?_
      exact ⟨_, rfl, i, _, di, _, _, rfl, hi, T.cl_Instance, T.n_Instance_grid, iF_g F g m, g, dg, _, rfl, hg, gF_no F (by decide +kernel) (by decide +kernel), _, rfl, g, F, t, rfl, ⟨dg, hg⟩, hs, k⟩
    · rw [decide_eq_false q, Bool.false_and] at k
      rw [decide_eq_false q]
      exact iteF k
def sp_i_route_for (A : Ad) : Sp := fun vs H Q _ => ∃ (i : Addr) (F : Fd) (r o t : Nat), vs = [.ref i, .int (r : Int), .int (o : Int), .int (t : Int)] ∧ InstAt A H i F ∧ IceM.Sized F ∧
  (IceM.tab F r o t = none → Pure H Q .non) ∧ (∀ d, IceM.tab F r o t = some d → New H Q (nts (IceM.routeOf F r o t)))
theorem ok_i_route_for (T : Txt K mg A) : FnOk P w K mg base CX0 7 A.i_route_for.a A.i_route_for.d ["self", "required", "origin", "target"] (sp_i_route_for A) := by
  refine T.f_i_route_for.ok sc_i_route_for (fun vs H Q E h => ?_) (fun cdv Ar outer s H vs Q E hr h => ?_)
  · obtain ⟨i, F, r, o, t, rfl, _⟩ := h
    rfl
  · obtain ⟨i, F, r, o, t, rfl, hI, hs, k1, k2⟩ := h
    obtain ⟨di, g, m, hi, hG, hM⟩ := hI
    have hI : InstAt A H i F := ⟨di, g, m, hi, hG, hM⟩
    refine ⟨_, (pss_one (ps_ret (pe_call (ok_route T) (hr.mono (by decide)) (by rfl) T.g_route T.f_route.kp T.b_route .nil pass0 (pa_cons (pe_fld (pv 0) rfl) (pa_cons (pe_meth (pv 0) T.cl_Instance T.m_i_cells_with (ok_i_cells_with T) (hr.mono (by decide)) T.b_i_cells_with .nil pass0 (pa_cons (pv 1) (pa_cons (pe_k (by rfl) T.k_SAFE) pa_nil))) (pa_cons (pv 2) (pa_cons (pv 3) pa_nil))))))), ?_⟩
    refine ⟨_, rfl, i, _, di, _, _, rfl, hi, T.cl_Instance, T.n_Instance_grid, iF_g F g m, _, rfl, i, di, _, rfl, hi, iF_no F g m (by decide +kernel), _, rfl, i, F, r, 1, rfl, hI, hs, fun p H1 s1 hp => ?_⟩
    refine ⟨_, rfl, _, rfl, g, F, p, r, o, t, rfl, hG.same s1, hs, hp.trans ?_, fun z H2 s2 => k1 z H2 (s1.trans s2), fun d z p2 H2 s2 hp2 => k2 d z p2 H2 (s1.trans s2) hp2⟩
    unfold withSt
    rw [IceM.filter_safe]
def sp_i_safe_route (A : Ad) : Sp := fun vs H Q _ => ∃ (i : Addr) (F : Fd) (r o t : Nat), vs = [.ref i, .int (r : Int), .int (o : Int), .int (t : Int)] ∧ InstAt A H i F ∧ IceM.Sized F ∧ New H Q (rs (Km563.step (some F) (.safeRoute r o t)).2)
theorem ok_i_safe_route (T : Txt K mg A) : FnOk P w K mg base CX0 8 A.i_safe_route.a A.i_safe_route.d ["self", "required", "origin", "target"] (sp_i_safe_route A) := by
  refine T.f_i_safe_route.ok sc_i_safe_route (fun vs H Q E h => ?_) (fun cdv Ar outer s H vs Q E hr h => ?_)
  · obtain ⟨i, F, r, o, t, rfl, _⟩ := h
    rfl
  · obtain ⟨i, F, r, o, t, rfl, hI, hs, k⟩ := h
    obtain ⟨di, g, m, hi, hG, hM⟩ := hI
    have hI : InstAt A H i F := ⟨di, g, m, hi, hG, hM⟩
    refine ⟨_, (pss_cons (ps_if (pt_not (pt_val (pe_meth (pv 0) T.cl_Instance T.m_i_have_cells (ok_i_have_cells T) (hr.mono (by decide)) T.b_i_have_cells .nil pass0 (pa_cons (pv 2) (pa_cons (pv 3) pa_nil))))) (pss_one (ps_ret (pe_lst (pa_cons (pe_k (by rfl) T.k_NO_CELL) pa_nil)))) pss_nil)
      (pss_cons (ps_if (pt_cmpR op_gt (pv 1) (pe_k (by rfl) T.k_MOST_THICKNESS) (nomark _)) (pss_one (ps_ret (pe_lst (pa_cons (pe_k (by rfl) T.k_OUTSIDE) pa_nil)))) pss_nil)
      (pss_cons (ps_set (i := 4) sc_i_safe_route.nd rfl (Or.inl rfl) (pe_meth (pv 0) T.cl_Instance T.m_i_route_for (ok_i_route_for T) (hr.mono (by decide)) T.b_i_route_for .nil pass0 (pa_cons (pv 1) (pa_cons (pv 2) (pa_cons (pv 3) pa_nil)))))
      (pss_one (ps_ret (pe_ifExp (pt_cmp (pc_notN (pv 4))) (pe_call (ok_counted T) (hr.mono (by decide)) (by rfl) T.g_counted T.f_counted.kp T.b_counted .nil pass0 (pa_cons (pv 4) pa_nil)) (pe_lst (pa_cons (pe_k (by rfl) T.k_NOT_POSSIBLE) pa_nil)))))))), ?_⟩
    refine ⟨_, rfl, i, di, _, rfl, hi, iF_no F g m (by decide +kernel), _, rfl, _, rfl, i, F, o, t, rfl, hI, hs, _, rfl, ?_⟩
    by_cases q : Km563.cellCount F ≤ o ∨ Km563.cellCount F ≤ t
    · have e : (decide (o < Km563.cellCount F) && decide (t < Km563.cellCount F)) = false := by
        rw [Bool.and_eq_false_iff]
        rcases q with q | q
        · exact .inl (decide_eq_false (by omega))
        · exact .inr (decide_eq_false (by omega))
      rw [IceM.st_route_cell q] at k
      rw [e]
      exact iteT ⟨(by show 1 ≤ sizeLine; decide), fun p hp => k p _ (Same.new hp) upd_same⟩
    · have e : (decide (o < Km563.cellCount F) && decide (t < Km563.cellCount F)) = true := by
        rw [Bool.and_eq_true]
        exact ⟨decide_eq_true (by omega), decide_eq_true (by omega)⟩
      rw [e]
      refine iteF ?_
      refine ⟨_, rfl, _, _, rfl, rfl, _, rfl, ?_⟩
      by_cases q2 : 99 < r
      · rw [decide_eq_true (show (99 : Int) < (r : Int) by omega)]
        rw [IceM.st_route_out q q2] at k
        exact iteT ⟨(by show 1 ≤ sizeLine; decide), fun p hp => k p _ (Same.new hp) upd_same⟩
      · rw [decide_eq_false (show ¬ (99 : Int) < (r : Int) by omega)]
        refine iteF ?_
        refine ⟨_, rfl, i, di, _, rfl, hi, iF_no F g m (by decide +kernel), _, rfl, _, rfl, _, rfl, i, F, r, o, t, rfl, hI, hs, fun z H1 s1 => ?_, fun d z p H1 s1 hp => ?_⟩
        · rw [IceM.st_route_none hs q q2 z] at k
          exact ⟨_, rfl, _, rfl, iteF ⟨(by show 1 ≤ sizeLine; decide), fun p hp => k p _ (s1.trans (Same.new hp)) upd_same⟩⟩
        · rw [IceM.st_route_some hs q q2 z] at k
          have hd := IceM.tab_small z
          have hc : Km563.cellCount F ≤ 25 := IceM.cc_le hs
          refine ⟨_, rfl, _, rfl, iteT ⟨_, rfl, p, _, rfl, hp, ?_, fun p2 H2 s2 hp2 => ?_⟩⟩
          · rw [nts_len, IceM.route_len hs z]
            omega
          · rw [nts_len] at hp2
            exact k p2 H2 (s1.trans s2) hp2
def sp_i_safe_route_length (A : Ad) : Sp := fun vs H Q _ => ∃ (i : Addr) (F : Fd) (r o t : Nat), vs = [.ref i, .int (r : Int), .int (o : Int), .int (t : Int)] ∧ InstAt A H i F ∧ IceM.Sized F ∧ New H Q (rs (Km563.step (some F) (.safeRouteLength r o t)).2)
theorem ok_i_safe_route_length (T : Txt K mg A) : FnOk P w K mg base CX0 9 A.i_safe_route_length.a A.i_safe_route_length.d ["self", "required", "origin", "target"] (sp_i_safe_route_length A) := by
  refine T.f_i_safe_route_length.ok sc_i_safe_route_length (fun vs H Q E h => ?_) (fun cdv Ar outer s H vs Q E hr h => ?_)
  · obtain ⟨i, F, r, o, t, rfl, _⟩ := h
    rfl
  · obtain ⟨i, F, r, o, t, rfl, hI, hs, k⟩ := h
    obtain ⟨di, g, m, hi, hG, hM⟩ := hI
    have hI : InstAt A H i F := ⟨di, g, m, hi, hG, hM⟩
    obtain ⟨l1, l2⟩ := IceM.rlen_is hs r o t
    refine ⟨_, (pss_cons (ps_set (i := 4) sc_i_safe_route_length.nd rfl (Or.inl rfl) (pe_meth (pv 0) T.cl_Instance T.m_i_safe_route (ok_i_safe_route T) (hr.mono (by decide)) T.b_i_safe_route .nil pass0 (pa_cons (pv 1) (pa_cons (pv 2) (pa_cons (pv 3) pa_nil)))))
      (pss_one (ps_ret (pe_ifExp (pt_cmpR op_gt (pe_ix ix_list (pv 4) pe_int (fun _ _ => rfl)) pe_int (nomark _)) (pe_lst (pa_cons (pe_op op_sub (pe_ix ix_list (pv 4) pe_int (fun _ _ => rfl)) pe_int) pa_nil)) (pv 4))))), ?_⟩
    refine ⟨_, rfl, i, di, _, rfl, hi, iF_no F g m (by decide +kernel), _, rfl, _, rfl, _, rfl, i, F, r, o, t, rfl, hI, hs, fun p H1 s1 hp => ?_⟩
    refine ⟨_, rfl, p, _, _, _, rfl, rfl, SqL.of hp, at_of (j := 0) rfl rfl, _, _, rfl, rfl, _, rfl, ?_⟩
    by_cases q : 0 < (Km563.step (some F) (.safeRoute r o t)).2.num
    · rw [decide_eq_true q]
      rw [l1 q] at k
      refine iteT ?_
      exact ⟨_, rfl, p, _, _, _, rfl, rfl, SqL.of hp, at_of (j := 0) rfl rfl, _, _, rfl, rfl, (by show 1 ≤ sizeLine; decide), fun p2 hp2 => k p2 _ (s1.trans (Same.new hp2)) upd_same⟩
    · rw [decide_eq_false q]
      rw [l2 q] at k
      refine iteF ?_
      exact ⟨_, rfl, k p H1 s1 hp⟩
def sp_i_max_safe_thickness (A : Ad) : Sp := fun vs H Q _ => ∃ (i : Addr) (F : Fd) (o t : Nat), vs = [.ref i, .int (o : Int), .int (t : Int)] ∧ InstAt A H i F ∧ IceM.Sized F ∧ New H Q (rs (Km563.step (some F) (.maxSafeThickness o t)).2)
theorem ok_i_max_safe_thickness (T : Txt K mg A) : FnOk P w K mg base CX0 8 A.i_max_safe_thickness.a A.i_max_safe_thickness.d ["self", "origin", "target"] (sp_i_max_safe_thickness A) := by
  refine T.f_i_max_safe_thickness.ok sc_i_max_safe_thickness (fun vs H Q E h => ?_) (fun cdv Ar outer s H vs Q E hr h => ?_)
  · obtain ⟨i, F, o, t, rfl, _⟩ := h
    rfl
  · obtain ⟨i, F, o, t, rfl, hI, hs, k⟩ := h
    obtain ⟨di, g, m, hi, hG, hM⟩ := hI
    have hI : InstAt A H i F := ⟨di, g, m, hi, hG, hM⟩
    refine ⟨_, (pss_cons (ps_if (pt_not (pt_val (pe_meth (pv 0) T.cl_Instance T.m_i_have_cells (ok_i_have_cells T) (hr.mono (by decide)) T.b_i_have_cells .nil pass0 (pa_cons (pv 1) (pa_cons (pv 2) pa_nil))))) (pss_one (ps_ret (pe_lst (pa_cons (pe_k (by rfl) T.k_NO_CELL) pa_nil)))) pss_nil)
      (pss_cons (ps_set (i := 3) sc_i_max_safe_thickness.nd rfl (Or.inl rfl) (pe_listRg rfl (by rfl) T.n_list (prg_1 (by rfl) T.n_range (pe_op op_add (pe_k (by rfl) T.k_MOST_THICKNESS) pe_int))))
      (pss_one (ps_ret (pe_lst (pa_cons (pe_callB (cr_max rfl) (by rfl) T.n_max (by decide +kernel) (pa_cons (pe_lc (own := [("required", 4)]) (g := gName 4) rfl sc_i_max_safe_thickness.nd (pi_list (pv 3)) (blkOk_by (own := [("required", 4)]) (N := ["self", "origin", "target", "some", "required"]) (sc := defScope s_i_max_safe_thickness) (by decide +kernel)) (fun _ _ _ _ _ => pg_name (i := 4) sc_i_max_safe_thickness.nd rfl (Or.inl rfl)) (fun _ _ _ _ _ => pts_one (pt_cmp (pc_notN (pe_meth (pv 0) T.cl_Instance T.m_i_route_for (ok_i_route_for T) (hr.mono (by decide)) T.b_i_route_for .nil pass0 (pa_cons (pv 4) (pa_cons (pv 1) (pa_cons (pv 2) pa_nil))))))) (fun _ _ _ _ _ => (pv 4))) pa_nil)) pa_nil)))))), ?_⟩
    refine ⟨_, rfl, i, di, _, rfl, hi, iF_no F g m (by decide +kernel), _, rfl, _, rfl, i, F, o, t, rfl, hI, hs, _, rfl, ?_⟩
    by_cases q : Km563.cellCount F ≤ o ∨ Km563.cellCount F ≤ t
    · have e : (decide (o < Km563.cellCount F) && decide (t < Km563.cellCount F)) = false := by
        rw [Bool.and_eq_false_iff]
        rcases q with q | q
        · exact .inl (decide_eq_false (by omega))
        · exact .inr (decide_eq_false (by omega))
      rw [IceM.st_max_cell q] at k
      rw [e]
      exact iteT ⟨(by show 1 ≤ sizeLine; decide), fun p hp => k p _ (Same.new hp) upd_same⟩
    · have e : (decide (o < Km563.cellCount F) && decide (t < Km563.cellCount F)) = true := by
        rw [Bool.and_eq_true]
        exact ⟨decide_eq_true (by omega), decide_eq_true (by omega)⟩
      rw [IceM.st_max_ok q] at k
      rw [e]
      refine iteF ?_
      refine ⟨_, _, rfl, rfl, _, rfl, ⟨by decide, by decide, by decide, by decide, by decide⟩, fun p hp => ?_⟩
      have s0 := Same.new (o := .lst (rgV 0 (99 + 1))) hp
      have l0 : upd H p (.lst (rgV 0 (99 + 1))) p = some (.lst (nts (List.range 100))) := by
        rw [upd_same]
        exact congrArg (fun q => some (HO.lst q)) (rgV_zero 100)
      generalize upd H p (.lst (rgV 0 (99 + 1))) = H0 at s0 l0 ⊢
      refine ⟨_, rfl, p, rfl, ⟨_, SqL.of l0⟩, fun D hD => ?_⟩
      refine lc_its (List.range 100) (fun n => .int (n : Int)) (fun r => (IceM.tab F r o t).isSome) (fun n => .int (n : Int)) (fun n => [some (.ref i), some (.int (o : Int)), some (.int (t : Int)), some (.ref p), some (.int (n : Int))]) hD (by rw [← nts_map]; exact SqL.of l0) (by rw [List.length_range]; omega) (fun r hr1 H1 s1 => ⟨fun _ h => h, rfl, fun Kb kb => ?_⟩) ?_ ?_
      · refine ⟨_, rfl, i, di, _, rfl, s1 _ _ (s0 _ _ hi), iF_no F g m (by decide +kernel), _, rfl, _, rfl, _, rfl, i, F, r, o, t, rfl, hI.same (s0.trans s1), hs, fun z H2 s2 => ⟨_, rfl, ?_⟩, fun d z p2 H2 s2 hp2 => ⟨_, rfl, ?_⟩⟩
        · have kb := kb H2 s2
          rw [z] at kb
          exact kb
        · have kb := kb H2 s2
          rw [z] at kb
          exact kb
      · intro n hn _ H1 s1 Kq k1
        exact ⟨_, rfl, k1 H1 (Same.refl H1)⟩
      · intro H1 s1 hD1
        have h0 : 0 ∈ (List.range 100).filter fun r => (IceM.tab F r o t).isSome := List.mem_filter.mpr ⟨List.mem_range.mpr (by omega), IceM.reached hs (by omega) (by omega)⟩
        refine ⟨D, Km563.toInts ((List.range 100).filter fun r => (IceM.tab F r o t).isSome), rfl, SqL.of (hD1.trans (by rw [← nts_map]; rfl)), ?_, fun x hx hle => ⟨(by show 1 ≤ sizeLine; decide), fun p2 hp2 => ?_⟩⟩
        · unfold Km563.toInts
          rw [List.length_map]
          exact List.length_pos_of_mem h0
        · obtain ⟨r, hr2, rfl⟩ := List.mem_map.mp hx
          have hr3 := List.mem_filter.mp hr2
          have ex := IceM.max_safe_is hs (List.mem_range.mp hr3.1) hr3.2 fun y hy hys => by
            have := hle (y : Int) (List.mem_map.mpr ⟨y, List.mem_filter.mpr ⟨List.mem_range.mpr hy, hys⟩, rfl⟩)
            omega
          rw [ex] at k
          exact k p2 _ (s0.trans (s1.trans (Same.new hp2))) upd_same
def sp_i_total_with (A : Ad) : Sp := fun vs H Q _ => ∃ (i : Addr) (F : Fd) (n t : Nat), vs = [.ref i, .int (n : Int), .int (t : Int)] ∧ InstAt A H i F ∧ IceM.Sized F ∧ n < Km563.cellCount F ∧ t ≤ 99 ∧ Pure H Q (.int (IceM.tot (Km563.withMeasurement F n t)))
theorem ok_i_total_with (T : Txt K mg A) : FnOk P w K mg base CX0 6 A.i_total_with.a A.i_total_with.d ["self", "cell", "thickness"] (sp_i_total_with A) := by
  refine T.f_i_total_with.ok sc_i_total_with (fun vs H Q E h => ?_) (fun cdv Ar outer s H vs Q E hr h => ?_)
  · obtain ⟨i, F, n, t, rfl, _⟩ := h
    rfl
  · obtain ⟨i, F, n, t, rfl, hI, hs, hn, ht, k⟩ := h
    obtain ⟨di, g, m, hi, hG, hM⟩ := hI
    have hI : InstAt A H i F := ⟨di, g, m, hi, hG, hM⟩
    refine ⟨_, (pss_one (ps_ret (pe_call (ok_total_of T) (hr.mono (by decide)) (by rfl) T.g_total_of T.f_total_of.kp T.b_total_of .nil pass0 (pa_cons (pe_fld (pv 0) rfl) (pa_cons (pe_fld (pv 0) rfl) (pa_cons (pe_meth (pv 0) T.cl_Instance T.m_i_with_measurement (ok_i_with_measurement T) (hr.mono (by decide)) T.b_i_with_measurement .nil pass0 (pa_cons (pv 1) (pa_cons (pv 2) pa_nil))) pa_nil)))))), ?_⟩
    refine ⟨_, rfl, i, _, di, _, _, rfl, hi, T.cl_Instance, T.n_Instance_grid, iF_g F g m, _, rfl, i, _, di, _, _, rfl, hi, T.cl_Instance, T.n_Instance_step, iF_s F g m, _, rfl, i, di, _, rfl, hi, iF_no F g m (by decide +kernel), _, rfl, _, rfl, i, F, n, t, rfl, hI, hs, fun p H1 s1 hp => ?_⟩
    exact ⟨g, Km563.withMeasurement F n t, p, rfl, hG.same s1, IceM.sized_withM hs hn ht, hp, fun H2 s2 => k H2 (s1.trans s2)⟩
def sp_i_total_uncertainty_with (A : Ad) : Sp := fun vs H Q _ => ∃ (i : Addr) (F : Fd) (n t : Nat), vs = [.ref i, .int (n : Int), .int (t : Int)] ∧ InstAt A H i F ∧ IceM.Good F ∧ New H Q (rs (Km563.step (some F) (.totalUncertaintyWith n t)).2)
theorem ok_i_total_uncertainty_with (T : Txt K mg A) : FnOk P w K mg base CX0 7 A.i_total_uncertainty_with.a A.i_total_uncertainty_with.d ["self", "cell", "thickness"] (sp_i_total_uncertainty_with A) := by
  refine T.f_i_total_uncertainty_with.ok sc_i_total_uncertainty_with (fun vs H Q E h => ?_) (fun cdv Ar outer s H vs Q E hr h => ?_)
  · obtain ⟨i, F, n, t, rfl, _⟩ := h
    rfl
  · obtain ⟨i, F, n, t, rfl, hI, hgd, k⟩ := h
    obtain ⟨di, g, m, hi, hG, hM⟩ := hI
    have hI : InstAt A H i F := ⟨di, g, m, hi, hG, hM⟩
    refine ⟨_, (pss_cons (ps_set (i := 3) sc_i_total_uncertainty_with.nd rfl (Or.inl rfl) (pe_meth (pv 0) T.cl_Instance T.m_i_measure_error (ok_i_measure_error T) (hr.mono (by decide)) T.b_i_measure_error .nil pass0 (pa_cons (pv 1) (pa_cons (pv 2) pa_nil))))
      (pss_one (ps_ret (pe_ifExp (pt_cmpR op_eq (pv 3) pe_int (nomark _)) (pe_lst (pa_cons (pe_meth (pv 0) T.cl_Instance T.m_i_total_with (ok_i_total_with T) (hr.mono (by decide)) T.b_i_total_with .nil pass0 (pa_cons (pv 1) (pa_cons (pv 2) pa_nil))) pa_nil)) (pe_lst (pa_cons (pv 3) pa_nil)))))), ?_⟩
    refine ⟨_, rfl, i, di, _, rfl, hi, iF_no F g m (by decide +kernel), _, rfl, _, rfl, i, F, n, t, rfl, hI, hgd, fun H1 s1 => ?_⟩
    refine ⟨_, rfl, rfl, _, rfl, ?_⟩
    by_cases q : IceM.merr F n t = 0
    · obtain ⟨a, b, c⟩ := IceM.merr_zero q
      rw [q]
      refine iteT ?_
      rw [IceM.st_total_ok q] at k
      refine ⟨_, rfl, i, di, _, rfl, s1 _ _ hi, iF_no F g m (by decide +kernel), _, rfl, _, rfl, i, F, n, t, rfl, hI.same s1, hgd.sz, a, b, fun H2 s2 => ⟨(by show 1 ≤ sizeLine; decide), fun p hp => ?_⟩⟩
      refine k p _ (s1.trans (s2.trans (Same.new hp))) (upd_same.trans ?_)
      rw [IceM.tot_is (IceM.good_withM hgd a b c)]
      rfl
    · have e0 : decide (V.int (IceM.merr F n t) = V.int 0) = false := decide_eq_false fun z => q (by injection z)
      rw [e0]
      refine iteF ?_
      rw [IceM.st_total_no q] at k
      exact ⟨_, rfl, (by show 1 ≤ sizeLine; decide), fun p hp => k p _ (s1.trans (Same.new hp)) upd_same⟩
def sp_i_worst_total_uncertainty (A : Ad) : Sp := fun vs H Q _ => ∃ (i : Addr) (F : Fd) (n : Nat), vs = [.ref i, .int (n : Int)] ∧ InstAt A H i F ∧ IceM.Good F ∧ New H Q (rs (Km563.step (some F) (.worstTotalUncertainty n)).2)
theorem ok_i_worst_total_uncertainty (T : Txt K mg A) : FnOk P w K mg base CX0 7 A.i_worst_total_uncertainty.a A.i_worst_total_uncertainty.d ["self", "cell"] (sp_i_worst_total_uncertainty A) := by
  refine T.f_i_worst_total_uncertainty.ok sc_i_worst_total_uncertainty (fun vs H Q E h => ?_) (fun cdv Ar outer s H vs Q E hr h => ?_)
  · obtain ⟨i, F, n, rfl, _⟩ := h
    rfl
  · obtain ⟨i, F, n, rfl, hI, hgd, k⟩ := h
    obtain ⟨di, g, m, hi, ⟨dg, hg⟩, hM⟩ := hI
    have hI : InstAt A H i F := ⟨di, g, m, hi, ⟨dg, hg⟩, hM⟩
    have hs := hgd.sz
    refine ⟨_, (pss_cons (ps_if (pt_not (pt_val (pe_meth (pe_fld (pv 0) rfl) T.cl_Grid T.m_g_has_cell (ok_g_has_cell T) (hr.mono (by decide)) T.b_g_has_cell .nil pass0 (pa_cons (pv 1) pa_nil)))) (pss_one (ps_ret (pe_lst (pa_cons (pe_k (by rfl) T.k_NO_CELL) pa_nil)))) pss_nil)
      (pss_cons (ps_if (pt_val (pe_meth (pv 0) T.cl_Instance T.m_i_is_measured (ok_i_is_measured T) (hr.mono (by decide)) T.b_i_is_measured .nil pass0 (pa_cons (pv 1) pa_nil))) (pss_one (ps_ret (pe_lst (pa_cons (pe_k (by rfl) T.k_MEASURED) pa_nil)))) pss_nil)
      (pss_cons (ps_set (i := 2) sc_i_worst_total_uncertainty.nd rfl (Or.inl rfl) (pe_listRg rfl (by rfl) T.n_list (prg_2 (by rfl) T.n_range (pe_meth (pv 0) T.cl_Instance T.m_i_lower (ok_i_lower T) (hr.mono (by decide)) T.b_i_lower .nil pass0 (pa_cons (pv 1) pa_nil)) (pe_op op_add (pe_meth (pv 0) T.cl_Instance T.m_i_upper (ok_i_upper T) (hr.mono (by decide)) T.b_i_upper .nil pass0 (pa_cons (pv 1) pa_nil)) pe_int))))
      (pss_one (ps_ret (pe_lst (pa_cons (pe_callB (cr_max rfl) (by rfl) T.n_max (by decide +kernel) (pa_cons (pe_lc (own := [("thickness", 3)]) (g := gName 3) rfl sc_i_worst_total_uncertainty.nd (pi_list (pv 2)) (blkOk_by (own := [("thickness", 3)]) (N := ["self", "cell", "thicknesses", "thickness"]) (sc := defScope s_i_worst_total_uncertainty) (by decide +kernel)) (fun _ _ _ _ _ => pg_name (i := 3) sc_i_worst_total_uncertainty.nd rfl (Or.inl rfl)) (fun _ _ _ _ _ => pts_nil) (fun _ _ _ _ _ => (pe_meth (pv 0) T.cl_Instance T.m_i_total_with (ok_i_total_with T) (hr.mono (by decide)) T.b_i_total_with .nil pass0 (pa_cons (pv 1) (pa_cons (pv 3) pa_nil))))) pa_nil)) pa_nil))))))), ?_⟩
    refine ⟨_, rfl, i, _, di, _, _, rfl, hi, T.cl_Instance, T.n_Instance_grid, iF_g F g m, g, dg, _, rfl, hg, gF_no F (by decide +kernel) (by decide +kernel), _, rfl, g, F, n, rfl, ⟨dg, hg⟩, hs, _, rfl, ?_⟩
    by_cases q : n < Km563.cellCount F
    · rw [decide_eq_true q]
      refine iteF ?_
      refine ⟨_, rfl, i, di, _, rfl, hi, iF_no F g m (by decide +kernel), _, rfl, i, F, n, rfl, hI, hs, fun H1 s1 => ⟨_, rfl, ?_⟩⟩
      cases q2 : (F.measurements.any fun m => m.1 == n) with
      | true =>
        rw [IceM.st_worst_meas (by omega) q2] at k
        exact iteT ⟨(by show 1 ≤ sizeLine; decide), fun p hp => k p _ (s1.trans (Same.new hp)) upd_same⟩
      | false =>
        rw [IceM.st_worst_ok (by omega) q2] at k
        have lu := IceM.low_up hgd n
        have u99 := IceM.upper_le F n
        refine iteF ?_
        refine ⟨_, rfl, i, di, _, rfl, s1 _ _ hi, iF_no F g m (by decide +kernel), _, rfl, i, F, n, rfl, hI.same s1, hs, fun H2 s2 => ?_⟩
        refine ⟨_, rfl, i, di, _, rfl, s2 _ _ (s1 _ _ hi), iF_no F g m (by decide +kernel), _, rfl, i, F, n, rfl, hI.same (s1.trans s2), hs, fun H3 s3 => ?_⟩
        refine ⟨_, _, rfl, rfl, _, _, rfl, rfl, ⟨by omega, by omega, by omega, by omega, by omega⟩, fun p hp => ?_⟩
        have s4 := Same.new (o := .lst (rgV (Km563.lowerBound F n : Int) ((Km563.upperBound F n : Int) + 1))) hp
        have l4 : upd H3 p (.lst (rgV (Km563.lowerBound F n : Int) ((Km563.upperBound F n : Int) + 1))) p = some (.lst ((List.range (Km563.upperBound F n + 1 - Km563.lowerBound F n)).map fun j => V.int ((Km563.lowerBound F n + j : Nat) : Int))) := by
          rw [upd_same]
          have := rgV_nat (Km563.lowerBound F n) (Km563.upperBound F n + 1)
          rw [show ((Km563.upperBound F n + 1 : Nat) : Int) = (Km563.upperBound F n : Int) + 1 from rfl] at this
          rw [this, nts_map, List.map_map]
          rfl
        generalize upd H3 p (.lst (rgV (Km563.lowerBound F n : Int) ((Km563.upperBound F n : Int) + 1))) = H4 at s4 l4 ⊢
        have s14 := s1.trans (s2.trans (s3.trans s4))
        refine ⟨_, rfl, p, rfl, ⟨_, SqL.of l4⟩, fun D hD => ?_⟩
        refine lc_all (List.range (Km563.upperBound F n + 1 - Km563.lowerBound F n)) (fun j => V.int ((Km563.lowerBound F n + j : Nat) : Int)) (fun j => .int (IceM.tot (Km563.withMeasurement F n (Km563.lowerBound F n + j)))) (fun j => [some (.ref i), some (.int (n : Int)), some (.ref p), some (V.int ((Km563.lowerBound F n + j : Nat) : Int))]) hD (SqL.of l4) (by rw [List.length_range]; omega) (fun y hy H1 s1 => ⟨fun _ h => h, rfl⟩) ?_ ?_
        · intro j hj H5 s5 Kq k1
          have hj := List.mem_range.mp hj
          exact ⟨_, rfl, i, di, _, rfl, s5 _ _ (s14 _ _ hi), iF_no F g m (by decide +kernel), _, rfl, _, rfl, i, F, n, Km563.lowerBound F n + j, rfl, hI.same (s14.trans s5), hs, q, by omega, k1⟩
        · intro H5 s5 hD5
          have e : ((List.range (Km563.upperBound F n + 1 - Km563.lowerBound F n)).map fun j => V.int (IceM.tot (Km563.withMeasurement F n (Km563.lowerBound F n + j)))) =
              ((List.range (Km563.upperBound F n + 1 - Km563.lowerBound F n)).map fun j => ((Km563.totalUncertainty (Km563.withMeasurement F n (Km563.lowerBound F n + j)) : Nat) : Int)).map V.int := by
            rw [List.map_map]
            refine List.map_congr_left fun j hj => ?_
            have hj := List.mem_range.mp hj
            show V.int _ = V.int _
            rw [IceM.tot_is (IceM.good_withM hgd q (by omega) (IceM.within_con hgd (by omega) (by omega)))]
          rw [e] at hD5
          refine ⟨D, _, rfl, SqL.of hD5, ?_, fun x hx hle => ⟨(by show 1 ≤ sizeLine; decide), fun p2 hp2 => ?_⟩⟩
          · rw [List.length_map, List.length_range]
            omega
          · have ex := IceM.worst_is (fun j => Km563.totalUncertainty (Km563.withMeasurement F n (Km563.lowerBound F n + j))) _ hx hle
            rw [ex]
            exact k p2 _ (s14.trans (s5.trans (Same.new hp2))) upd_same
    · rw [decide_eq_false q]
      rw [IceM.st_worst_cell (by omega)] at k
      exact iteT ⟨(by show 1 ≤ sizeLine; decide), fun p hp => k p _ (Same.new hp) upd_same⟩
def sp_i_smallest_consistent_step (A : Ad) : Sp := fun vs H Q _ => ∃ (i : Addr) (F : Fd), vs = [.ref i] ∧ InstAt A H i F ∧ IceM.Good F ∧ New H Q (rs (Km563.step (some F) .smallestConsistentStep).2)
theorem ok_i_smallest_consistent_step (T : Txt K mg A) : FnOk P w K mg base CX0 5 A.i_smallest_consistent_step.a A.i_smallest_consistent_step.d ["self"] (sp_i_smallest_consistent_step A) := by
  refine T.f_i_smallest_consistent_step.ok sc_i_smallest_consistent_step (fun vs H Q E h => ?_) (fun cdv Ar outer s H vs Q E hr h => ?_)
  · obtain ⟨i, F, rfl, _⟩ := h
    rfl
  · obtain ⟨i, F, rfl, ⟨di, g, m, hi, hG, hM⟩, hgd, k⟩ := h
    refine ⟨_, (pss_one (ps_ret (pe_lst (pa_cons (pe_call (ok_smallest_step T) (hr.mono (by decide)) (by rfl) T.g_smallest_step T.f_smallest_step.kp T.b_smallest_step .nil pass0 (pa_cons (pe_fld (pv 0) rfl) (pa_cons (pe_fld (pv 0) rfl) pa_nil))) pa_nil)))), ?_⟩
    rw [IceM.st_small hgd] at k
    exact ⟨_, rfl, i, _, di, _, _, rfl, hi, T.cl_Instance, T.n_Instance_grid, iF_g F g m, _, rfl, i, _, di, _, _, rfl, hi, T.cl_Instance, T.n_Instance_measurements, iF_m F g m, g, F, m, rfl, hG, hgd.sz, hM, fun H1 s1 => ⟨(by show 1 ≤ sizeLine; decide), fun p hp => k p _ (s1.trans (Same.new hp)) upd_same⟩⟩
def sp_i_total_uncertainty (A : Ad) : Sp := fun vs H Q _ => ∃ (i : Addr) (F : Fd), vs = [.ref i] ∧ InstAt A H i F ∧ IceM.Good F ∧ New H Q (rs (Km563.step (some F) .totalUncertainty).2)
theorem ok_i_total_uncertainty (T : Txt K mg A) : FnOk P w K mg base CX0 6 A.i_total_uncertainty.a A.i_total_uncertainty.d ["self"] (sp_i_total_uncertainty A) := by
  refine T.f_i_total_uncertainty.ok sc_i_total_uncertainty (fun vs H Q E h => ?_) (fun cdv Ar outer s H vs Q E hr h => ?_)
  · obtain ⟨i, F, rfl, _⟩ := h
    rfl
  · obtain ⟨i, F, rfl, ⟨di, g, m, hi, hG, hM⟩, hgd, k⟩ := h
    refine ⟨_, (pss_one (ps_ret (pe_lst (pa_cons (pe_call (ok_total_of T) (hr.mono (by decide)) (by rfl) T.g_total_of T.f_total_of.kp T.b_total_of .nil pass0 (pa_cons (pe_fld (pv 0) rfl) (pa_cons (pe_fld (pv 0) rfl) (pa_cons (pe_fld (pv 0) rfl) pa_nil)))) pa_nil)))), ?_⟩
    refine ⟨_, rfl, i, _, di, _, _, rfl, hi, T.cl_Instance, T.n_Instance_grid, iF_g F g m, _, rfl, i, _, di, _, _, rfl, hi, T.cl_Instance, T.n_Instance_step, iF_s F g m, _, rfl, i, _, di, _, _, rfl, hi, T.cl_Instance, T.n_Instance_measurements, iF_m F g m, g, F, m, rfl, hG, hgd.sz, hM, fun H1 s1 => ⟨(by show 1 ≤ sizeLine; decide), fun p hp => ?_⟩⟩
    rw [IceM.tot_is hgd]
    exact k p _ (s1.trans (Same.new hp)) upd_same
def sp_i_summary (A : Ad) : Sp := fun vs H Q _ => ∃ (i : Addr) (F : Fd), vs = [.ref i] ∧ InstAt A H i F ∧ New H Q (rs (Km563.step (some F) .summary).2)
theorem ok_i_summary (T : Txt K mg A) : FnOk P w K mg base CX0 1 A.i_summary.a A.i_summary.d ["self"] (sp_i_summary A) := by
  refine T.f_i_summary.ok sc_i_summary (fun vs H Q E h => ?_) (fun cdv Ar outer s H vs Q E hr h => ?_)
  · obtain ⟨i, F, rfl, _⟩ := h
    rfl
  · obtain ⟨i, F, rfl, ⟨di, g, m, hi, ⟨dg, hg⟩, ⟨xs, hm, ht⟩⟩, k⟩ := h
    refine ⟨_, (pss_one (ps_ret (pe_lst (pa_cons (pe_fld (pe_fld (pv 0) rfl) rfl) (pa_cons (pe_fld (pe_fld (pv 0) rfl) rfl) (pa_cons (pe_fld (pv 0) rfl) (pa_cons (pe_callB call_len_seq (by rfl) T.n_len (by decide +kernel) (pa_cons (pe_fld (pv 0) rfl) pa_nil)) pa_nil))))))), ?_⟩
    refine ⟨_, rfl, i, _, di, _, _, rfl, hi, T.cl_Instance, T.n_Instance_grid, iF_g F g m, g, _, dg, _, _, rfl, hg, T.cl_Grid, T.n_Grid_columns, gF_c F, _, rfl, i, _, di, _, _, rfl, hi, T.cl_Instance, T.n_Instance_grid, iF_g F g m, g, _, dg, _, _, rfl, hg, T.cl_Grid, T.n_Grid_rows, gF_r F, _, rfl, i, _, di, _, _, rfl, hi, T.cl_Instance, T.n_Instance_step, iF_s F g m, _, rfl, i, _, di, _, _, rfl, hi, T.cl_Instance, T.n_Instance_measurements, iF_m F g m, m, xs, rfl, .inl (SqL.of hm), (by show 4 ≤ sizeLine; decide), fun p hp => ?_⟩
    rw [ht.len]
    exact k p _ (Same.new hp) upd_same
end
end IceW
set_option linter.all false
set_option maxRecDepth 100000
set_option maxHeartbeats 2000000
/-! The walk, part 6: the calls on one object. -/
namespace IceW
open PySem PySem.Spec PyProof.Rows L2
theorem w_true {b : Bool} {X Y : Prop} (h : b = true) (x : X) : if b = true then X else Y := by
  rw [h]
  exact iteT x
theorem w_false {b : Bool} {X Y : Prop} (h : b = false) (y : Y) : if b = true then X else Y := by
  rw [h]
  exact iteF y
/-- all but instances stands -/
def Keep (H H' : Hp) : Prop := ∀ b o, H b = some o → (∀ C dx fs, o ≠ .ins C dx fs) → H' b = some o
theorem Most.keep {H H' : Hp} {i C dx : Addr} {fs : List (Str × V)} (k : Most H H' i) (hi : H i = some (.ins C dx fs)) : Keep H H' := fun b o e hn => k b o e fun z => by
  rw [z, hi] at e
  cases e
  exact hn _ _ _ rfl
theorem Keep.seq {K : PySem.W.Frag} {H H' : Hp} {a : Addr} {xs : List V} (k : Keep H H') (h : SqL K H a xs) : SqL K H' a xs := by
  rcases h with (h | ⟨o, h⟩) | h
  · exact .inl (.inl (k _ _ h (by intro _ _ _ z; cases z)))
  · exact .inl (.inr ⟨o, k _ _ h (by intro _ _ _ z; cases z)⟩)
  · exact .inr h
theorem Keep.lst {H H' : Hp} {a : Addr} {xs : List V} (k : Keep H H') (h : H a = some (.lst xs)) : H' a = some (.lst xs) := k _ _ h (by intro _ _ _ z; cases z)
def fF (v : V) : List (Str × V) := [("instance", v)]
theorem fF_i (v : V) : (fF v).lookup ("instance" : Str) = some v := look_at
theorem fF_no (v : V) {x : Str} (h : (x == ("instance" : Str)) = false) : (fF v).lookup x = none := (look_on h).trans rfl
def Holds1 (A : Ad) (H : Hp) (v : V) : Km563.State → Prop
  | none => v = .non
  | some F => ∃ i, v = .ref i ∧ InstAt A H i F
def FieldAt (A : Ad) (H : Hp) (f : Addr) (st : Km563.State) : Prop := ∃ df v, H f = some (.ins A.c_Field df (fF v)) ∧ Holds1 A H v st
theorem FieldAt.same {A : Ad} {H H' : Hp} {f : Addr} {st : Km563.State} (h : FieldAt A H f st) (s : Same H H') : FieldAt A H' f st := by
  obtain ⟨df, v, e, q⟩ := h
  refine ⟨df, v, s _ _ e, ?_⟩
  cases st with
  | none => exact q
  | some F =>
    obtain ⟨i, e2, q⟩ := q
    exact ⟨i, e2, q.same s⟩
theorem fi_ne {A : Ad} {H : Hp} {f i df di g m : Addr} {F : Fd} {v : V} (hf : H f = some (.ins A.c_Field df (fF v))) (hi : H i = some (.ins A.c_Instance di (iF F g m))) : f ≠ i :=
  ne_of hf hi (by
    intro z
    injection z with _ _ z
    have q := congrArg List.length z
    exact absurd (show (1 : Nat) = 3 from q) (by decide))
theorem fg_ne {A : Ad} {H : Hp} {f g df dg : Addr} {F : Fd} {v : V} (hf : H f = some (.ins A.c_Field df (fF v))) (hg : H g = some (.ins A.c_Grid dg (gF F))) : f ≠ g :=
  ne_of hf hg (by
    intro z
    injection z with _ _ z
    have q := congrArg List.length z
    exact absurd (show (1 : Nat) = 2 from q) (by decide))
theorem InstAt.off {A : Ad} {H H' : Hp} {f i df : Addr} {F : Fd} {v : V} (h : InstAt A H i F) (hf : H f = some (.ins A.c_Field df (fF v))) (k : Most H H' f) : InstAt A H' i F := by
  obtain ⟨di, g, m, hi, ⟨dg, hg⟩, hM⟩ := h
  exact ⟨di, g, m, k _ _ hi (fi_ne hf hi).symm, ⟨dg, k _ _ hg (fg_ne hf hg).symm⟩, k.ms hf hM⟩
/-- an answer of the object at f -/
def Tells (A : Ad) (H : Hp) (f : Addr) (st : Km563.State) (c : Km563.Call) (Q : VK) : Prop :=
  ∀ p H', FieldAt A H' f (Km563.step st c).1 → Keep H H' → H' p = some (.lst (rs (Km563.step st c).2)) → Q (.ref p) H'
theorem Same.keep {H H' : Hp} (s : Same H H') : Keep H H' := fun b o e _ => s b o e
theorem Tells.told {A : Ad} {H : Hp} {f i : Addr} {F : Fd} {c : Km563.Call} {Q : VK} {df : Addr} (k : Tells A H f (some F) c Q) (hf : H f = some (.ins A.c_Field df (fF (.ref i)))) (hI : InstAt A H i F) : Told A H i F c Q := by
  intro p H' F' h1 h2 h3 h4
  obtain ⟨di, g, m, hi, _⟩ := hI
  refine k p H' ?_ (h3.keep hi) h4
  rw [h1]
  exact ⟨df, .ref i, h3 _ _ hf (fi_ne hf hi), i, rfl, h2⟩
section
variable {P : Program} {w : World} {K : PySem.W.Frag} {mg : Str → Option Value} {base : Heap} {A : Ad}
def sp_is_size : Sp := fun vs H Q _ => ∃ (c r s : Nat), vs = [.int (c : Int), .int (r : Int), .int (s : Int)] ∧ Q (.bl (decide (¬ (c = 0 ∨ 5 < c ∨ r = 0 ∨ 5 < r ∨ 20 < s)))) H
theorem ok_is_size (T : Txt K mg A) : FnOk P w K mg base CX0 1 A.is_size.a A.is_size.d ["columns", "rows", "step"] sp_is_size := by
  refine T.f_is_size.ok sc_is_size (fun vs H Q E h => ?_) (fun cdv Ar outer s H vs Q E hr h => ?_)
  · obtain ⟨c, r, s, rfl, _⟩ := h
    rfl
  · obtain ⟨c, r, s', rfl, k⟩ := h
    refine ⟨_, (pss_one (ps_ret (pe_and (pe_chain op_le op_le pe_int (pv 0) (pe_k (by rfl) T.k_MOST_SIDE)) (pe_and (pe_chain op_le op_le pe_int (pv 1) (pe_k (by rfl) T.k_MOST_SIDE)) (pe_one (pe_cmpR op_le (pv 2) (pe_k (by rfl) T.k_MOST_STEP) (nomark _))))))), ?_⟩
    refine ⟨_, rfl, _, _, rfl, rfl, _, rfl, ?_⟩
    by_cases c1 : 1 ≤ c
    · refine w_true (decide_eq_true (by omega)) ⟨_, _, rfl, rfl, _, rfl, ?_⟩
      by_cases c5 : c ≤ 5
      · refine w_true (decide_eq_true (by omega)) ⟨_, rfl, _, _, rfl, rfl, _, rfl, ?_⟩
        by_cases r1 : 1 ≤ r
        · refine w_true (decide_eq_true (by omega)) ⟨_, _, rfl, rfl, _, rfl, ?_⟩
          by_cases r5 : r ≤ 5
          · refine w_true (decide_eq_true (by omega)) ⟨_, rfl, _, _, rfl, rfl, ?_⟩
            have e : decide ((s' : Int) ≤ 20) = decide (¬ (c = 0 ∨ 5 < c ∨ r = 0 ∨ 5 < r ∨ 20 < s')) := decide_eq_decide.mpr (by omega)
            dsimp only
            rw [e]
            exact k
          · rw [decide_eq_false (by omega)] at k
            exact w_false (decide_eq_false (by omega)) k
        · rw [decide_eq_false (by omega)] at k
          exact w_false (decide_eq_false (by omega)) ⟨_, rfl, iteF k⟩
      · rw [decide_eq_false (by omega)] at k
        exact w_false (decide_eq_false (by omega)) k
    · rw [decide_eq_false (by omega)] at k
      exact w_false (decide_eq_false (by omega)) ⟨_, rfl, iteF k⟩
def sp_one_cell (A : Ad) : Sp := fun vs H Q _ => ∃ (i : Addr) (F : Fd) (u n : Nat), vs = [.ref i, .int (u : Int), .int (n : Int)] ∧ InstAt A H i F ∧ IceM.Good F ∧ (u = 5 ∨ u = 6 ∨ u = 10) ∧
  (u = 5 → New H Q (rs (Km563.step (some F) (.lowerBound n)).2)) ∧ (u = 6 → New H Q (rs (Km563.step (some F) (.upperBound n)).2)) ∧ (u = 10 → New H Q (rs (Km563.step (some F) (.uncertainty n)).2))
theorem ok_one_cell (T : Txt K mg A) : FnOk P w K mg base CX0 6 A.one_cell.a A.one_cell.d ["instance", "word", "cell"] (sp_one_cell A) := by
  refine T.f_one_cell.ok sc_one_cell (fun vs H Q E h => ?_) (fun cdv Ar outer s H vs Q E hr h => ?_)
  · obtain ⟨i, F, u, n, rfl, _⟩ := h
    rfl
  · obtain ⟨i, F, u, n, rfl, hI, hgd, hu, k5, k6, k10⟩ := h
    obtain ⟨di, g, m, hi, ⟨dg, hg⟩, hM⟩ := hI
    have hI : InstAt A H i F := ⟨di, g, m, hi, ⟨dg, hg⟩, hM⟩
    have hs := hgd.sz
    refine ⟨_, (pss_cons (ps_if (pt_not (pt_val (pe_meth (pe_fld (pv 0) rfl) T.cl_Grid T.m_g_has_cell (ok_g_has_cell T) (hr.mono (by decide)) T.b_g_has_cell .nil pass0 (pa_cons (pv 2) pa_nil)))) (pss_one (ps_ret (pe_lst (pa_cons (pe_k (by rfl) T.k_NO_CELL) pa_nil)))) pss_nil)
      (pss_cons (ps_if (pt_cmpR op_eq (pv 1) pe_int (nomark _)) (pss_one (ps_ret (pe_lst (pa_cons (pe_meth (pv 0) T.cl_Instance T.m_i_lower (ok_i_lower T) (hr.mono (by decide)) T.b_i_lower .nil pass0 (pa_cons (pv 2) pa_nil)) pa_nil)))) pss_nil)
      (pss_one (ps_ret (pe_ifExp (pt_cmpR op_eq (pv 1) pe_int (nomark _)) (pe_lst (pa_cons (pe_meth (pv 0) T.cl_Instance T.m_i_upper (ok_i_upper T) (hr.mono (by decide)) T.b_i_upper .nil pass0 (pa_cons (pv 2) pa_nil)) pa_nil)) (pe_lst (pa_cons (pe_meth (pv 0) T.cl_Instance T.m_i_uncertainty (ok_i_uncertainty T) (hr.mono (by decide)) T.b_i_uncertainty .nil pass0 (pa_cons (pv 2) pa_nil)) pa_nil))))))), ?_⟩
    refine ⟨_, rfl, i, _, di, _, _, rfl, hi, T.cl_Instance, T.n_Instance_grid, iF_g F g m, g, dg, _, rfl, hg, gF_no F (by decide +kernel) (by decide +kernel), _, rfl, g, F, n, rfl, ⟨dg, hg⟩, hs, _, rfl, ?_⟩
    by_cases q : n < Km563.cellCount F
    · refine w_false (by rw [decide_eq_true q]; rfl) ⟨_, rfl, rfl, _, rfl, ?_⟩
      obtain rfl | rfl | rfl := hu
      · have k := k5 rfl
        rw [IceM.st_low_ok (by omega)] at k
        refine w_true (by decide) ?_
        exact ⟨_, rfl, i, di, _, rfl, hi, iF_no F g m (by decide +kernel), _, rfl, i, F, n, rfl, hI, hs, fun H1 s1 => ⟨(by show 1 ≤ sizeLine; decide), fun p hp => k p _ (s1.trans (Same.new hp)) upd_same⟩⟩
      · have k := k6 rfl
        rw [IceM.st_up_ok (by omega)] at k
        refine w_false (by decide) ⟨_, rfl, rfl, _, rfl, w_true (by decide) ?_⟩
        exact ⟨_, rfl, i, di, _, rfl, hi, iF_no F g m (by decide +kernel), _, rfl, i, F, n, rfl, hI, hs, fun H1 s1 => ⟨(by show 1 ≤ sizeLine; decide), fun p hp => k p _ (s1.trans (Same.new hp)) upd_same⟩⟩
      · have k := k10 rfl
        rw [IceM.st_un_ok (by omega)] at k
        refine w_false (by decide) ⟨_, rfl, rfl, _, rfl, w_false (by decide) ?_⟩
        refine ⟨_, rfl, i, di, _, rfl, hi, iF_no F g m (by decide +kernel), _, rfl, i, F, n, rfl, hI, hs, fun H1 s1 => ⟨(by show 1 ≤ sizeLine; decide), fun p hp => ?_⟩⟩
        rw [IceM.unc_is hgd]
        exact k p _ (s1.trans (Same.new hp)) upd_same
    · refine w_true (by rw [decide_eq_false q]; rfl) ⟨(by show 1 ≤ sizeLine; decide), fun p hp => ?_⟩
      obtain rfl | rfl | rfl := hu
      · have k := k5 rfl
        rw [IceM.st_low_cell (by omega)] at k
        exact k p _ (Same.new hp) upd_same
      · have k := k6 rfl
        rw [IceM.st_up_cell (by omega)] at k
        exact k p _ (Same.new hp) upd_same
      · have k := k10 rfl
        rw [IceM.st_un_cell (by omega)] at k
        exact k p _ (Same.new hp) upd_same
def sp_change (A : Ad) : Sp := fun vs H Q _ => ∃ (i : Addr) (F : Fd) (u : Nat) (a : Addr) (l : List Nat) (c : Km563.Call), vs = [.ref i, .int (u : Int), .ref a] ∧ InstAt A H i F ∧ IceM.Good F ∧ H a = some (.lst (nts l)) ∧ IceM.dec u l = some c ∧ 1 ≤ u ∧ u < 5 ∧ Told A H i F c Q
theorem ok_change (T : Txt K mg A) : FnOk P w K mg base CX0 7 A.change.a A.change.d ["instance", "word", "numbers"] (sp_change A) := by
  refine T.f_change.ok sc_change (fun vs H Q E h => ?_) (fun cdv Ar outer s H vs Q E hr h => ?_)
  · obtain ⟨i, F, u, a, l, c, rfl, _⟩ := h
    rfl
  · obtain ⟨i, F, u, a, l, c, rfl, hI, hgd, ha, hd, u1, u5, k⟩ := h
    obtain ⟨di, g, m, hi, ⟨dg, hg⟩, hM⟩ := hI
    have hI : InstAt A H i F := ⟨di, g, m, hi, ⟨dg, hg⟩, hM⟩
    refine ⟨_, (pss_cons (ps_if (pt_cmpR op_eq (pv 1) pe_int (nomark _)) (pss_one (ps_ret (pe_meth (pv 0) T.cl_Instance T.m_i_set_max_step (ok_i_set_max_step T) (hr.mono (by decide)) T.b_i_set_max_step .nil pass0 (pa_cons (pe_ix ix_list (pv 2) pe_int (fun _ _ => rfl)) pa_nil)))) pss_nil)
      (pss_cons (ps_if (pt_cmpR op_eq (pv 1) pe_int (nomark _)) (pss_one (ps_ret (pe_meth (pv 0) T.cl_Instance T.m_i_measure (ok_i_measure T) (hr.mono (by decide)) T.b_i_measure .nil pass0 (pa_cons (pe_ix ix_list (pv 2) pe_int (fun _ _ => rfl)) (pa_cons (pe_ix ix_list (pv 2) pe_int (fun _ _ => rfl)) pa_nil))))) pss_nil)
      (pss_one (ps_ret (pe_ifExp (pt_cmpR op_eq (pv 1) pe_int (nomark _)) (pe_meth (pv 0) T.cl_Instance T.m_i_remove_measurement (ok_i_remove_measurement T) (hr.mono (by decide)) T.b_i_remove_measurement .nil pass0 (pa_cons (pe_ix ix_list (pv 2) pe_int (fun _ _ => rfl)) pa_nil)) (pe_meth0 (pv 0) T.cl_Instance T.m_i_list_measurements (ok_i_list_measurements T) (hr.mono (by decide)) T.b_i_list_measurements .nil pass0)))))), ?_⟩
    refine ⟨_, rfl, rfl, _, rfl, ?_⟩
    obtain rfl | rfl | rfl | rfl : u = 1 ∨ u = 2 ∨ u = 3 ∨ u = 4 := by omega
    · obtain ⟨x, rfl, rfl⟩ := IceM.as1 hd
      refine w_true (by decide) ?_
      exact ⟨_, rfl, i, di, _, rfl, hi, iF_no F g m (by decide +kernel), _, rfl, a, _, _, _, rfl, rfl, SqL.of ha, at_of (j := 0) rfl rfl, i, F, x, rfl, hI, hgd, k⟩
    · obtain ⟨x, y, rfl, rfl⟩ := IceM.as2 hd
      refine w_false (by decide) ⟨_, rfl, rfl, _, rfl, w_true (by decide) ?_⟩
      exact ⟨_, rfl, i, di, _, rfl, hi, iF_no F g m (by decide +kernel), _, rfl, a, _, _, _, rfl, rfl, SqL.of ha, at_of (j := 0) rfl rfl, _, rfl, a, _, _, _, rfl, rfl, SqL.of ha, at_of (j := 1) rfl rfl, i, F, x, y, rfl, hI, hgd, k⟩
    · obtain ⟨x, rfl, rfl⟩ := IceM.as1 hd
      refine w_false (by decide) ⟨_, rfl, rfl, _, rfl, w_false (by decide) ⟨_, rfl, rfl, _, rfl, w_true (by decide) ?_⟩⟩
      exact ⟨_, rfl, i, di, _, rfl, hi, iF_no F g m (by decide +kernel), _, rfl, a, _, _, _, rfl, rfl, SqL.of ha, at_of (j := 0) rfl rfl, i, F, x, rfl, hI, hgd, k⟩
    · obtain ⟨rfl, rfl⟩ := IceM.as0 hd
      refine w_false (by decide) ⟨_, rfl, rfl, _, rfl, w_false (by decide) ⟨_, rfl, rfl, _, rfl, w_false (by decide) ?_⟩⟩
      exact ⟨_, rfl, i, di, _, rfl, hi, iF_no F g m (by decide +kernel), i, F, rfl, hI, hgd, k.new rfl hI⟩
def sp_bounds (A : Ad) : Sp := fun vs H Q _ => ∃ (i : Addr) (F : Fd) (u : Nat) (a : Addr) (l : List Nat) (c : Km563.Call), vs = [.ref i, .int (u : Int), .ref a] ∧ InstAt A H i F ∧ IceM.Good F ∧ H a = some (.lst (nts l)) ∧ IceM.dec u l = some c ∧ 5 ≤ u ∧ u < 12 ∧ New H Q (rs (Km563.step (some F) c).2)
theorem New.from {H H' : Hp} {Q : VK} {l : List V} (k : New H Q l) (s : Same H H') : New H' Q l := fun p H2 s2 e => k p H2 (s.trans s2) e
theorem ok_bounds (T : Txt K mg A) : FnOk P w K mg base CX0 7 A.bounds.a A.bounds.d ["instance", "word", "numbers"] (sp_bounds A) := by
  refine T.f_bounds.ok sc_bounds (fun vs H Q E h => ?_) (fun cdv Ar outer s H vs Q E hr h => ?_)
  · obtain ⟨i, F, u, a, l, c, rfl, _⟩ := h
    rfl
  · obtain ⟨i, F, u, a, l, c, rfl, hI, hgd, ha, hd, u1, u5, k⟩ := h
    have hs := hgd.sz
    have hc : Km563.cellCount F ≤ 25 := IceM.cc_le hs
    refine ⟨_, (pss_cons (ps_if (pt_cmpR op_in_seq (pv 1) (pe_tup (pa_cons pe_int (pa_cons pe_int (pa_cons pe_int pa_nil)))) (by rfl)) (pss_one (ps_ret (pe_call (ok_one_cell T) (hr.mono (by decide)) (by rfl) T.g_one_cell T.f_one_cell.kp T.b_one_cell .nil pass0 (pa_cons (pv 0) (pa_cons (pv 1) (pa_cons (pe_ix ix_list (pv 2) pe_int (fun _ _ => rfl)) pa_nil)))))) pss_nil)
      (pss_cons (ps_if (pt_cmpR op_in_seq (pv 1) (pe_tup (pa_cons pe_int (pa_cons pe_int pa_nil))) (by rfl)) (pss_one (ps_ret (pe_call (ok_counted T) (hr.mono (by decide)) (by rfl) T.g_counted T.f_counted.kp T.b_counted .nil pass0 (pa_cons (pe_ifExp (pt_cmpR op_eq (pv 1) pe_int (nomark _)) (pe_meth0 (pv 0) T.cl_Instance T.m_i_lower_bounds (ok_i_lower_bounds T) (hr.mono (by decide)) T.b_i_lower_bounds .nil pass0) (pe_meth0 (pv 0) T.cl_Instance T.m_i_upper_bounds (ok_i_upper_bounds T) (hr.mono (by decide)) T.b_i_upper_bounds .nil pass0)) pa_nil)))) pss_nil)
      (pss_one (ps_ret (pe_ifExp (pt_cmpR op_eq (pv 1) pe_int (nomark _)) (pe_meth (pv 0) T.cl_Instance T.m_i_is_possible (ok_i_is_possible T) (hr.mono (by decide)) T.b_i_is_possible .nil pass0 (pa_cons (pe_ix ix_list (pv 2) pe_int (fun _ _ => rfl)) (pa_cons (pe_ix ix_list (pv 2) pe_int (fun _ _ => rfl)) pa_nil))) (pe_meth0 (pv 0) T.cl_Instance T.m_i_most_uncertain_cell (ok_i_most_uncertain_cell T) (hr.mono (by decide)) T.b_i_most_uncertain_cell .nil pass0)))))), ?_⟩
    refine ⟨_, rfl, (by show 3 ≤ sizeLine; decide), fun p hp => ⟨p, _, rfl, .inr (SqT.of upd_same), rfl, rfl, _, rfl, ?_⟩⟩
    have s0 := Same.new (o := .tup [.int 5, .int 6, .int 10]) hp
    generalize upd H p (.tup [.int 5, .int 6, .int 10]) = H0 at s0 ⊢
    have hI := hI.same s0
    have ha := s0 _ _ ha
    have k := k.from s0
    by_cases one : u = 5 ∨ u = 6 ∨ u = 10
    · refine w_true (by rcases one with rfl | rfl | rfl <;> decide) ⟨_, rfl, _, rfl, ?_⟩
      obtain ⟨n, rfl⟩ : ∃ n, l = [n] := by
        rcases one with rfl | rfl | rfl
        · obtain ⟨n, e, _⟩ := IceM.as1 hd
          exact ⟨n, e⟩
        · obtain ⟨n, e, _⟩ := IceM.as1 hd
          exact ⟨n, e⟩
        · obtain ⟨n, e, _⟩ := IceM.as1 hd
          exact ⟨n, e⟩
      refine ⟨_, rfl, a, _, _, _, rfl, rfl, SqL.of ha, at_of (j := 0) rfl rfl, i, F, u, n, rfl, hI, hgd, one, fun e => ?_, fun e => ?_, fun e => ?_⟩
      · subst e; cases hd; exact k
      · subst e; cases hd; exact k
      · subst e; cases hd; exact k
    · refine w_false (by obtain rfl | rfl | rfl | rfl : u = 7 ∨ u = 8 ∨ u = 9 ∨ u = 11 := (by omega) <;> decide) ?_
      refine ⟨_, rfl, (by show 2 ≤ sizeLine; decide), fun p2 hp2 => ⟨p2, _, rfl, .inr (SqT.of upd_same), rfl, rfl, _, rfl, ?_⟩⟩
      have s2 := Same.new (o := .tup [.int 7, .int 8]) hp2
      generalize upd H0 p2 (.tup [.int 7, .int 8]) = H2 at s2 ⊢
      have hI := hI.same s2
      have ha := s2 _ _ ha
      have k := k.from s2
      obtain ⟨di, g, m, hi, ⟨dg, hg⟩, hM⟩ := hI
      have hI : InstAt A H2 i F := ⟨di, g, m, hi, ⟨dg, hg⟩, hM⟩
      obtain rfl | rfl | rfl | rfl : u = 7 ∨ u = 8 ∨ u = 9 ∨ u = 11 := by omega
      · obtain ⟨rfl, rfl⟩ := IceM.as0 hd
        refine w_true (by decide) ⟨_, rfl, rfl, _, rfl, w_true (by decide) ?_⟩
        refine ⟨_, rfl, i, di, _, rfl, hi, iF_no F g m (by decide +kernel), i, F, rfl, hI, hs, fun p3 H3 s3 h3 => ⟨p3, _, rfl, h3, (by rw [nts_len, List.length_map, List.length_range]; omega), fun p4 H4 s4 h4 => ?_⟩⟩
        rw [nts_len] at h4
        exact k p4 H4 (s3.trans s4) h4
      · obtain ⟨rfl, rfl⟩ := IceM.as0 hd
        refine w_true (by decide) ⟨_, rfl, rfl, _, rfl, w_false (by decide) ?_⟩
        refine ⟨_, rfl, i, di, _, rfl, hi, iF_no F g m (by decide +kernel), i, F, rfl, hI, hs, fun p3 H3 s3 h3 => ⟨p3, _, rfl, h3, (by rw [nts_len, List.length_map, List.length_range]; omega), fun p4 H4 s4 h4 => ?_⟩⟩
        rw [nts_len] at h4
        exact k p4 H4 (s3.trans s4) h4
      · obtain ⟨x, y, rfl, rfl⟩ := IceM.as2 hd
        refine w_false (by decide) ⟨_, rfl, rfl, _, rfl, w_true (by decide) ?_⟩
        exact ⟨_, rfl, i, di, _, rfl, hi, iF_no F g m (by decide +kernel), _, rfl, a, _, _, _, rfl, rfl, SqL.of ha, at_of (j := 0) rfl rfl, _, rfl, a, _, _, _, rfl, rfl, SqL.of ha, at_of (j := 1) rfl rfl, i, F, x, y, rfl, hI, hgd, k⟩
      · obtain ⟨rfl, rfl⟩ := IceM.as0 hd
        refine w_false (by decide) ⟨_, rfl, rfl, _, rfl, w_false (by decide) ?_⟩
        exact ⟨_, rfl, i, di, _, rfl, hi, iF_no F g m (by decide +kernel), i, F, rfl, hI, hgd, k⟩
def sp_safety (A : Ad) : Sp := fun vs H Q _ => ∃ (i : Addr) (F : Fd) (u : Nat) (a : Addr) (l : List Nat) (c : Km563.Call), vs = [.ref i, .int (u : Int), .ref a] ∧ InstAt A H i F ∧ IceM.Good F ∧ H a = some (.lst (nts l)) ∧ IceM.dec u l = some c ∧ 12 ≤ u ∧ u < 18 ∧ New H Q (rs (Km563.step (some F) c).2)
theorem ok_safety (T : Txt K mg A) : FnOk P w K mg base CX0 10 A.safety.a A.safety.d ["instance", "word", "numbers"] (sp_safety A) := by
  refine T.f_safety.ok sc_safety (fun vs H Q E h => ?_) (fun cdv Ar outer s H vs Q E hr h => ?_)
  · obtain ⟨i, F, u, a, l, c, rfl, _⟩ := h
    rfl
  · obtain ⟨i, F, u, a, l, c, rfl, hI, hgd, ha, hd, u1, u5, k⟩ := h
    have hs := hgd.sz
    refine ⟨_, (pss_cons (ps_if (pt_cmpR op_eq (pv 1) pe_int (nomark _)) (pss_one (ps_ret (pe_meth (pv 0) T.cl_Instance T.m_i_check_cell (ok_i_check_cell T) (hr.mono (by decide)) T.b_i_check_cell .nil pass0 (pa_cons (pe_ix ix_list (pv 2) pe_int (fun _ _ => rfl)) (pa_cons (pe_ix ix_list (pv 2) pe_int (fun _ _ => rfl)) pa_nil))))) pss_nil)
      (pss_cons (ps_if (pt_cmpR op_in_seq (pv 1) (pe_tup (pa_cons pe_int (pa_cons pe_int pa_nil))) (by rfl)) (pss_one (ps_ret (pe_meth (pv 0) T.cl_Instance T.m_i_listed_cells (ok_i_listed_cells T) (hr.mono (by decide)) T.b_i_listed_cells .nil pass0 (pa_cons (pe_ix ix_list (pv 2) pe_int (fun _ _ => rfl)) (pa_cons (pe_ifExp (pt_cmpR op_eq (pv 1) pe_int (nomark _)) (pe_k (by rfl) T.k_SAFE) (pe_k (by rfl) T.k_UNCERTAIN)) pa_nil))))) pss_nil)
      (pss_cons (ps_if (pt_cmpR op_eq (pv 1) pe_int (nomark _)) (pss_one (ps_ret (pe_meth (pv 0) T.cl_Instance T.m_i_safe_route (ok_i_safe_route T) (hr.mono (by decide)) T.b_i_safe_route .nil pass0 (pa_cons (pe_ix ix_list (pv 2) pe_int (fun _ _ => rfl)) (pa_cons (pe_ix ix_list (pv 2) pe_int (fun _ _ => rfl)) (pa_cons (pe_ix ix_list (pv 2) pe_int (fun _ _ => rfl)) pa_nil)))))) pss_nil)
      (pss_cons (ps_if (pt_cmpR op_eq (pv 1) pe_int (nomark _)) (pss_one (ps_ret (pe_meth (pv 0) T.cl_Instance T.m_i_safe_route_length (ok_i_safe_route_length T) (hr.mono (by decide)) T.b_i_safe_route_length .nil pass0 (pa_cons (pe_ix ix_list (pv 2) pe_int (fun _ _ => rfl)) (pa_cons (pe_ix ix_list (pv 2) pe_int (fun _ _ => rfl)) (pa_cons (pe_ix ix_list (pv 2) pe_int (fun _ _ => rfl)) pa_nil)))))) pss_nil)
      (pss_one (ps_ret (pe_meth (pv 0) T.cl_Instance T.m_i_max_safe_thickness (ok_i_max_safe_thickness T) (hr.mono (by decide)) T.b_i_max_safe_thickness .nil pass0 (pa_cons (pe_ix ix_list (pv 2) pe_int (fun _ _ => rfl)) (pa_cons (pe_ix ix_list (pv 2) pe_int (fun _ _ => rfl)) pa_nil))))))))), ?_⟩
    refine ⟨_, rfl, rfl, _, rfl, ?_⟩
    by_cases one : u = 12
    · subst one
      obtain ⟨di, g, m, hi, ⟨dg, hg⟩, hM⟩ := hI
      have hI : InstAt A H i F := ⟨di, g, m, hi, ⟨dg, hg⟩, hM⟩
      obtain ⟨x, y, rfl, rfl⟩ := IceM.as2 hd
      refine w_true (by decide) ?_
      exact ⟨_, rfl, i, di, _, rfl, hi, iF_no F g m (by decide +kernel), _, rfl, a, _, _, _, rfl, rfl, SqL.of ha, at_of (j := 0) rfl rfl, _, rfl, a, _, _, _, rfl, rfl, SqL.of ha, at_of (j := 1) rfl rfl, i, F, x, y, rfl, hI, hs, k⟩
    · refine w_false (by obtain rfl | rfl | rfl | rfl | rfl : u = 13 ∨ u = 14 ∨ u = 15 ∨ u = 16 ∨ u = 17 := (by omega) <;> decide) ?_
      refine ⟨_, rfl, (by show 2 ≤ sizeLine; decide), fun p hp => ⟨p, _, rfl, .inr (SqT.of upd_same), rfl, rfl, _, rfl, ?_⟩⟩
      have s0 := Same.new (o := .tup [.int 13, .int 14]) hp
      generalize upd H p (.tup [.int 13, .int 14]) = H0 at s0 ⊢
      have hI := hI.same s0
      have ha := s0 _ _ ha
      have k := k.from s0
      obtain ⟨di, g, m, hi, ⟨dg, hg⟩, hM⟩ := hI
      have hI : InstAt A H0 i F := ⟨di, g, m, hi, ⟨dg, hg⟩, hM⟩
      obtain rfl | rfl | rfl | rfl | rfl : u = 13 ∨ u = 14 ∨ u = 15 ∨ u = 16 ∨ u = 17 := by omega
      · obtain ⟨x, rfl, rfl⟩ := IceM.as1 hd
        refine w_true (by decide) ⟨_, rfl, i, di, _, rfl, hi, iF_no F g m (by decide +kernel), _, rfl, a, _, _, _, rfl, rfl, SqL.of ha, at_of (j := 0) rfl rfl, _, rfl, rfl, _, rfl, w_true (by decide) ⟨i, F, x, 1, rfl, hI, hs, fun e => ?_, fun e => ?_⟩⟩
        · rw [IceM.st_safe_out e] at k
          exact k
        · rw [IceM.st_safe_ok e] at k
          exact k
      · obtain ⟨x, rfl, rfl⟩ := IceM.as1 hd
        refine w_true (by decide) ⟨_, rfl, i, di, _, rfl, hi, iF_no F g m (by decide +kernel), _, rfl, a, _, _, _, rfl, rfl, SqL.of ha, at_of (j := 0) rfl rfl, _, rfl, rfl, _, rfl, w_false (by decide) ⟨i, F, x, 2, rfl, hI, hs, fun e => ?_, fun e => ?_⟩⟩
        · rw [IceM.st_unc_out e] at k
          exact k
        · rw [IceM.st_unc_ok e] at k
          exact k
      · obtain ⟨x, y, z, rfl, rfl⟩ := IceM.as3 hd
        refine w_false (by decide) ⟨_, rfl, rfl, _, rfl, w_true (by decide) ?_⟩
        exact ⟨_, rfl, i, di, _, rfl, hi, iF_no F g m (by decide +kernel), _, rfl, a, _, _, _, rfl, rfl, SqL.of ha, at_of (j := 0) rfl rfl, _, rfl, a, _, _, _, rfl, rfl, SqL.of ha, at_of (j := 1) rfl rfl, _, rfl, a, _, _, _, rfl, rfl, SqL.of ha, at_of (j := 2) rfl rfl, i, F, x, y, z, rfl, hI, hs, k⟩
      · obtain ⟨x, y, z, rfl, rfl⟩ := IceM.as3 hd
        refine w_false (by decide) ⟨_, rfl, rfl, _, rfl, w_false (by decide) ⟨_, rfl, rfl, _, rfl, w_true (by decide) ?_⟩⟩
        exact ⟨_, rfl, i, di, _, rfl, hi, iF_no F g m (by decide +kernel), _, rfl, a, _, _, _, rfl, rfl, SqL.of ha, at_of (j := 0) rfl rfl, _, rfl, a, _, _, _, rfl, rfl, SqL.of ha, at_of (j := 1) rfl rfl, _, rfl, a, _, _, _, rfl, rfl, SqL.of ha, at_of (j := 2) rfl rfl, i, F, x, y, z, rfl, hI, hs, k⟩
      · obtain ⟨x, y, rfl, rfl⟩ := IceM.as2 hd
        refine w_false (by decide) ⟨_, rfl, rfl, _, rfl, w_false (by decide) ⟨_, rfl, rfl, _, rfl, w_false (by decide) ?_⟩⟩
        exact ⟨_, rfl, i, di, _, rfl, hi, iF_no F g m (by decide +kernel), _, rfl, a, _, _, _, rfl, rfl, SqL.of ha, at_of (j := 0) rfl rfl, _, rfl, a, _, _, _, rfl, rfl, SqL.of ha, at_of (j := 1) rfl rfl, i, F, x, y, rfl, hI, hs, k⟩
def sp_totals (A : Ad) : Sp := fun vs H Q _ => ∃ (i : Addr) (F : Fd) (u : Nat) (a : Addr) (l : List Nat) (c : Km563.Call), vs = [.ref i, .int (u : Int), .ref a] ∧ InstAt A H i F ∧ IceM.Good F ∧ H a = some (.lst (nts l)) ∧ IceM.dec u l = some c ∧ 18 ≤ u ∧ u < 23 ∧ New H Q (rs (Km563.step (some F) c).2)
theorem ok_totals (T : Txt K mg A) : FnOk P w K mg base CX0 8 A.totals.a A.totals.d ["instance", "word", "numbers"] (sp_totals A) := by
  refine T.f_totals.ok sc_totals (fun vs H Q E h => ?_) (fun cdv Ar outer s H vs Q E hr h => ?_)
  · obtain ⟨i, F, u, a, l, c, rfl, _⟩ := h
    rfl
  · obtain ⟨i, F, u, a, l, c, rfl, hI, hgd, ha, hd, u1, u5, k⟩ := h
    obtain ⟨di, g, m, hi, ⟨dg, hg⟩, hM⟩ := hI
    have hI : InstAt A H i F := ⟨di, g, m, hi, ⟨dg, hg⟩, hM⟩
    refine ⟨_, (pss_cons (ps_if (pt_cmpR op_eq (pv 1) pe_int (nomark _)) (pss_one (ps_ret (pe_meth (pv 0) T.cl_Instance T.m_i_total_uncertainty_with (ok_i_total_uncertainty_with T) (hr.mono (by decide)) T.b_i_total_uncertainty_with .nil pass0 (pa_cons (pe_ix ix_list (pv 2) pe_int (fun _ _ => rfl)) (pa_cons (pe_ix ix_list (pv 2) pe_int (fun _ _ => rfl)) pa_nil))))) pss_nil)
      (pss_cons (ps_if (pt_cmpR op_eq (pv 1) pe_int (nomark _)) (pss_one (ps_ret (pe_meth (pv 0) T.cl_Instance T.m_i_worst_total_uncertainty (ok_i_worst_total_uncertainty T) (hr.mono (by decide)) T.b_i_worst_total_uncertainty .nil pass0 (pa_cons (pe_ix ix_list (pv 2) pe_int (fun _ _ => rfl)) pa_nil)))) pss_nil)
      (pss_cons (ps_if (pt_cmpR op_eq (pv 1) pe_int (nomark _)) (pss_one (ps_ret (pe_meth0 (pv 0) T.cl_Instance T.m_i_smallest_consistent_step (ok_i_smallest_consistent_step T) (hr.mono (by decide)) T.b_i_smallest_consistent_step .nil pass0))) pss_nil)
      (pss_one (ps_ret (pe_ifExp (pt_cmpR op_eq (pv 1) pe_int (nomark _)) (pe_meth0 (pv 0) T.cl_Instance T.m_i_total_uncertainty (ok_i_total_uncertainty T) (hr.mono (by decide)) T.b_i_total_uncertainty .nil pass0) (pe_meth0 (pv 0) T.cl_Instance T.m_i_summary (ok_i_summary T) (hr.mono (by decide)) T.b_i_summary .nil pass0))))))), ?_⟩
    refine ⟨_, rfl, rfl, _, rfl, ?_⟩
    obtain rfl | rfl | rfl | rfl | rfl : u = 18 ∨ u = 19 ∨ u = 20 ∨ u = 21 ∨ u = 22 := by omega
    · obtain ⟨x, y, rfl, rfl⟩ := IceM.as2 hd
      refine w_true (by decide) ?_
      exact ⟨_, rfl, i, di, _, rfl, hi, iF_no F g m (by decide +kernel), _, rfl, a, _, _, _, rfl, rfl, SqL.of ha, at_of (j := 0) rfl rfl, _, rfl, a, _, _, _, rfl, rfl, SqL.of ha, at_of (j := 1) rfl rfl, i, F, x, y, rfl, hI, hgd, k⟩
    · obtain ⟨x, rfl, rfl⟩ := IceM.as1 hd
      refine w_false (by decide) ⟨_, rfl, rfl, _, rfl, w_true (by decide) ?_⟩
      exact ⟨_, rfl, i, di, _, rfl, hi, iF_no F g m (by decide +kernel), _, rfl, a, _, _, _, rfl, rfl, SqL.of ha, at_of (j := 0) rfl rfl, i, F, x, rfl, hI, hgd, k⟩
    · obtain ⟨rfl, rfl⟩ := IceM.as0 hd
      refine w_false (by decide) ⟨_, rfl, rfl, _, rfl, w_false (by decide) ⟨_, rfl, rfl, _, rfl, w_true (by decide) ?_⟩⟩
      exact ⟨_, rfl, i, di, _, rfl, hi, iF_no F g m (by decide +kernel), i, F, rfl, hI, hgd, k⟩
    · obtain ⟨rfl, rfl⟩ := IceM.as0 hd
      refine w_false (by decide) ⟨_, rfl, rfl, _, rfl, w_false (by decide) ⟨_, rfl, rfl, _, rfl, w_false (by decide) ⟨_, rfl, rfl, _, rfl, w_true (by decide) ?_⟩⟩⟩
      exact ⟨_, rfl, i, di, _, rfl, hi, iF_no F g m (by decide +kernel), i, F, rfl, hI, hgd, k⟩
    · obtain ⟨rfl, rfl⟩ := IceM.as0 hd
      refine w_false (by decide) ⟨_, rfl, rfl, _, rfl, w_false (by decide) ⟨_, rfl, rfl, _, rfl, w_false (by decide) ⟨_, rfl, rfl, _, rfl, w_false (by decide) ?_⟩⟩⟩
      exact ⟨_, rfl, i, di, _, rfl, hi, iF_no F g m (by decide +kernel), i, F, rfl, hI, k⟩
def sp_f_init (A : Ad) : Sp := fun vs H Q _ => ∃ (p dx : Addr), vs = [.ref p] ∧ H p = some (.ins A.c_Field dx []) ∧ ∀ H', FieldAt A H' p none → Most H H' p → Q .non H'
theorem ok_f_init (T : Txt K mg A) : FnOk P w K mg base CX0 1 A.f_init.a A.f_init.d ["self"] (sp_f_init A) := by
  refine T.f_f_init.ok sc_f_init (fun vs H Q E h => ?_) (fun cdv Ar outer s H vs Q E hr h => ?_)
  · obtain ⟨p, dx, rfl, _⟩ := h
    rfl
  · obtain ⟨p, dx, rfl, hp, k⟩ := h
    refine ⟨_, (pss_one (ps_fld (pv 0) pe_non rfl)), ?_⟩
    refine ⟨_, rfl, p, _, dx, _, rfl, hp, T.cl_Field, T.n_Field_instance, (by show 0 < 1000; decide), ?_⟩
    exact k _ ⟨dx, .non, upd_same, rfl⟩ fun b o e hb => by
      rw [upd_ne hb]
      exact e
def sp_f_create (A : Ad) : Sp := fun vs H Q _ => ∃ (f : Addr) (st : Km563.State) (a : Addr) (c r s : Nat), vs = [.ref f, .ref a] ∧ FieldAt A H f st ∧ H a = some (.lst (nts [c, r, s])) ∧ Tells A H f st (.create c r s) Q
theorem ok_f_create (T : Txt K mg A) : FnOk P w K mg base CX0 5 A.f_create.a A.f_create.d ["self", "numbers"] (sp_f_create A) := by
  refine T.f_f_create.ok sc_f_create (fun vs H Q E h => ?_) (fun cdv Ar outer s H vs Q E hr h => ?_)
  · obtain ⟨f, st, a, c, r, s', rfl, _⟩ := h
    rfl
  · obtain ⟨f, st, a, c, r, s', rfl, hF, ha, k⟩ := h
    refine ⟨_, (pss_cons (ps_asg (pv 1) (pg_unl rfl (pgs_cons (pg_name (i := 2) sc_f_create.nd rfl (Or.inl rfl)) (pgs_cons (pg_name (i := 3) sc_f_create.nd rfl (Or.inl rfl)) (pgs_cons (pg_name (i := 4) sc_f_create.nd rfl (Or.inl rfl)) pgs_nil)))))
      (pss_cons (ps_if (pt_not (pt_val (pe_call (ok_is_size T) (hr.mono (by decide)) (by rfl) T.g_is_size T.f_is_size.kp T.b_is_size .nil pass0 (pa_cons (pv 2) (pa_cons (pv 3) (pa_cons (pv 4) pa_nil)))))) (pss_one (ps_ret (pe_lst (pa_cons (pe_k (by rfl) T.k_OUTSIDE) pa_nil)))) pss_nil)
      (pss_cons (ps_fld (pv 0) (pe_make T.mk_Instance (ok_i_init T) (hr.mono (by decide)) (by rfl) T.g_Instance T.b_i_init .nil pass0 (pa_cons (pv 2) (pa_cons (pv 3) (pa_cons (pv 4) pa_nil)))) rfl)
      (pss_one (ps_ret (pe_lst (pa_cons pe_int pa_nil))))))), ?_⟩
    refine ⟨_, rfl, a, _, rfl, SqL.of ha, rfl, _, _, rfl, _, _, rfl, _, _, rfl, rfl, ?_⟩
    refine ⟨_, rfl, _, rfl, _, rfl, c, r, s', rfl, _, rfl, ?_⟩
    by_cases q : c = 0 ∨ 5 < c ∨ r = 0 ∨ 5 < r ∨ 20 < s'
    · refine w_true (by rw [decide_eq_false (fun z => z q)]; rfl) ⟨(by show 1 ≤ sizeLine; decide), fun p hp => ?_⟩
      have e := IceM.st_create_no (st := st) q
      refine k p _ (by rw [e]; exact hF.same (Same.new hp)) (Same.keep (Same.new hp)) ?_
      rw [e]
      exact upd_same
    · refine w_false (by rw [decide_eq_true q]; rfl) ?_
      have e := IceM.st_create_ok (st := st) q
      obtain ⟨df, v, hf, _⟩ := hF
      refine ⟨_, rfl, _, rfl, _, rfl, fun x dx nx nd ne => ⟨x, dx, c, r, s', rfl, upd_same, fun H1 hI mo => ⟨rfl, ?_⟩⟩⟩
      have s1 : Same H H1 := Same.made nx nd mo
      have hf1 := s1 _ _ hf
      refine ⟨_, rfl, f, _, df, _, rfl, hf1, T.cl_Field, T.n_Field_instance, (by show 1 < 1000; decide), ?_⟩
      rw [show putF "instance" (V.ref x) (fF v) = fF (.ref x) from put_at]
      have mo2 : Most H1 (upd H1 f (.ins A.c_Field df (fF (.ref x)))) f := fun b o e hb => by
        rw [upd_ne hb]
        exact e
      have hf2 : upd H1 f (.ins A.c_Field df (fF (.ref x))) f = some (.ins A.c_Field df (fF (.ref x))) := upd_same
      generalize upd H1 f (.ins A.c_Field df (fF (.ref x))) = H2 at mo2 hf2 ⊢
      have hI2 := hI.off hf1 mo2
      refine ⟨(by show 1 ≤ sizeLine; decide), fun p hp => ?_⟩
      have s3 := Same.new (o := .lst [.int 0]) hp
      refine k p _ ?_ (fun b o hb hn => s3 _ _ (mo2.keep hf1 b o (s1 _ _ hb) hn)) ?_
      · rw [e]
        exact ⟨df, .ref x, s3 _ _ hf2, x, rfl, hI2.same s3⟩
      · rw [e]
        exact upd_same
def sp_f_answer (A : Ad) : Sp := fun vs H Q _ => ∃ (f : Addr) (st : Km563.State) (u : Nat) (a : Addr) (l : List Nat) (c : Km563.Call), vs = [.ref f, .int (u : Int), .ref a] ∧ FieldAt A H f st ∧ IceM.GoodS st ∧ H a = some (.lst (nts l)) ∧ IceM.dec u l = some c ∧ Tells A H f st c Q
theorem ok_f_answer (T : Txt K mg A) : FnOk P w K mg base CX0 11 A.f_answer.a A.f_answer.d ["self", "word", "numbers"] (sp_f_answer A) := by
  refine T.f_f_answer.ok sc_f_answer (fun vs H Q E h => ?_) (fun cdv Ar outer s H vs Q E hr h => ?_)
  · obtain ⟨f, st, u, a, l, c, rfl, _⟩ := h
    rfl
  · obtain ⟨f, st, u, a, l, c, rfl, hF, hgd, ha, hd, k⟩ := h
    obtain ⟨df, v, hf, hv⟩ := hF
    have hF : FieldAt A H f st := ⟨df, v, hf, hv⟩
    have hu := IceM.dec_lt hd
    refine ⟨_, (pss_cons (ps_if (pt_cmpR op_eq (pv 1) (pe_k (by rfl) T.k_CREATE) (nomark _)) (pss_one (ps_ret (pe_meth (pv 0) T.cl_Field T.m_f_create (ok_f_create T) (hr.mono (by decide)) T.b_f_create .nil pass0 (pa_cons (pv 2) pa_nil)))) pss_nil)
      (pss_cons (ps_set (i := 3) sc_f_answer.nd rfl (Or.inl rfl) (pe_fld (pv 0) rfl))
      (pss_cons (ps_if (pt_cmp (pc_isN (pv 3))) (pss_one (ps_ret (pe_lst (pa_cons (pe_k (by rfl) T.k_NO_INSTANCE) pa_nil)))) pss_nil)
      (pss_cons (ps_if (pt_cmpR op_lt (pv 1) pe_int (nomark _)) (pss_one (ps_ret (pe_call (ok_change T) (hr.mono (by decide)) (by rfl) T.g_change T.f_change.kp T.b_change .nil pass0 (pa_cons (pv 3) (pa_cons (pv 1) (pa_cons (pv 2) pa_nil)))))) pss_nil)
      (pss_cons (ps_if (pt_cmpR op_lt (pv 1) pe_int (nomark _)) (pss_one (ps_ret (pe_call (ok_bounds T) (hr.mono (by decide)) (by rfl) T.g_bounds T.f_bounds.kp T.b_bounds .nil pass0 (pa_cons (pv 3) (pa_cons (pv 1) (pa_cons (pv 2) pa_nil)))))) pss_nil)
      (pss_one (ps_ret (pe_ifExp (pt_cmpR op_lt (pv 1) pe_int (nomark _)) (pe_call (ok_safety T) (hr.mono (by decide)) (by rfl) T.g_safety T.f_safety.kp T.b_safety .nil pass0 (pa_cons (pv 3) (pa_cons (pv 1) (pa_cons (pv 2) pa_nil)))) (pe_call (ok_totals T) (hr.mono (by decide)) (by rfl) T.g_totals T.f_totals.kp T.b_totals .nil pass0 (pa_cons (pv 3) (pa_cons (pv 1) (pa_cons (pv 2) pa_nil)))))))))))), ?_⟩
    refine ⟨_, rfl, rfl, _, rfl, ?_⟩
    by_cases u0 : u = 0
    · subst u0
      obtain ⟨x, y, z, rfl, rfl⟩ := IceM.as3 hd
      refine w_true (by decide) ?_
      exact ⟨_, rfl, f, df, _, rfl, hf, fF_no v (by decide +kernel), _, rfl, f, st, a, x, y, z, rfl, hF, ha, k⟩
    · refine w_false (decide_eq_false (fun z => u0 (by injection z with z; omega))) ?_
      refine ⟨_, rfl, f, _, df, _, _, rfl, hf, T.cl_Field, T.n_Field_instance, fF_i v, ?_⟩
      refine ⟨_, rfl, _, rfl, ?_⟩
      cases st with
      | none =>
        have hv : v = .non := hv
        subst hv
        refine w_true (by decide) ⟨(by show 1 ≤ sizeLine; decide), fun p hp => ?_⟩
        have e := IceM.step_none hd (by omega)
        refine k p _ (by rw [e]; exact hF.same (Same.new hp)) (Same.keep (Same.new hp)) ?_
        rw [e]
        exact upd_same
      | some F =>
        obtain ⟨i, rfl, hI⟩ := hv
        have hgd : IceM.Good F := hgd
        have k := k.told hf hI
        refine w_false (decide_eq_false (by intro z; cases z)) ⟨_, rfl, _, _, rfl, rfl, _, rfl, ?_⟩
        by_cases u5 : u < 5
        · refine w_true (decide_eq_true (by omega)) ?_
          exact ⟨_, rfl, _, rfl, _, rfl, i, F, u, a, l, c, rfl, hI, hgd, ha, hd, by omega, u5, k⟩
        · have k := k.new (IceM.step_pure hd (by omega)) hI
          refine w_false (decide_eq_false (by omega)) ⟨_, rfl, _, _, rfl, rfl, _, rfl, ?_⟩
          by_cases u12 : u < 12
          · refine w_true (decide_eq_true (by omega)) ?_
            exact ⟨_, rfl, _, rfl, _, rfl, i, F, u, a, l, c, rfl, hI, hgd, ha, hd, by omega, u12, k⟩
          · refine w_false (decide_eq_false (by omega)) ⟨_, rfl, _, _, rfl, rfl, _, rfl, ?_⟩
            by_cases u18 : u < 18
            · refine w_true (decide_eq_true (by omega)) ?_
              exact ⟨_, rfl, _, rfl, _, rfl, i, F, u, a, l, c, rfl, hI, hgd, ha, hd, by omega, u18, k⟩
            · refine w_false (decide_eq_false (by omega)) ?_
              exact ⟨_, rfl, _, rfl, _, rfl, i, F, u, a, l, c, rfl, hI, hgd, ha, hd, by omega, hu, k⟩
/-- what is handed in: a list of numbers that are not negative, and «asked» -/
def sp_answers (K : PySem.W.Frag) : Sp := fun vs H Q _ => ∃ (a : Addr) (l : List Nat), vs = [.ref a] ∧ SqL K H a (nts l) ∧ l.length ≤ 160 ∧ PyKm563.answers_asked (Km563.toInts l) = true ∧
  ∀ (H' : Hp) (p : Addr), H' p = some (.lst ((PyKm563.answers (Km563.toInts l)).map V.int)) → Q (.ref p) H'
theorem rs_nums (r : Km563.Result) : rs r = (IceM.nums r).map V.int := rfl
theorem cut_is {l : List Nat} {i n : Nat} (h : i + 1 + n ≤ l.length) : cutV (nts l) (some ((i : Int) + 1)) (some ((i : Int) + 1 + (n : Int))) = nts ((l.drop (i + 1)).take n) := by
  have e1 : HT.sIx (nts l).length 0 (some ((i : Int) + 1)) = i + 1 := by
    rw [nts_len]
    show HT.sIx l.length 0 (some ((i : Int) + 1)) = i + 1
    unfold HT.sIx
    simp only []
    repeat' split
    all_goals omega
  have e2 : HT.sIx (nts l).length (nts l).length (some ((i : Int) + 1 + (n : Int))) = i + 1 + n := by
    rw [nts_len]
    unfold HT.sIx
    simp only []
    repeat' split
    all_goals omega
  unfold cutV
  rw [e1, e2, nts_map, nts_map, List.map_take, List.map_drop, show i + 1 + n - (i + 1) = n by omega]
theorem FieldAt.away {A : Ad} {H H' : Hp} {f pf : Addr} {st : Km563.State} {od : Obj} {u : HO} (h : FieldAt A H f st) (hp : H pf = some (.frz od u)) (k : Most H H' pf) : FieldAt A H' f st := by
  obtain ⟨df, v, e, q⟩ := h
  refine ⟨df, v, k _ _ e (ne_of e hp (by intro z; cases z)), ?_⟩
  cases st with
  | none => exact q
  | some F =>
    obtain ⟨i, e2, di, g, m, hi, ⟨dg, hg⟩, xs, hm, ht⟩ := q
    refine ⟨i, e2, di, g, m, k _ _ hi (ne_of hi hp (by intro z; cases z)), ⟨dg, k _ _ hg (ne_of hg hp (by intro z; cases z))⟩, xs, k _ _ hm (ne_of hm hp (by intro z; cases z)), ?_⟩
    have tups : ∀ {xs : List V} {ps : List (Nat × Nat)}, Tups H xs ps → Tups H' xs ps := by
      intro xs
      induction xs with
      | nil =>
        intro ps t
        cases ps with
        | nil => trivial
        | cons p r => exact t.elim
      | cons x r ih =>
        intro ps t
        cases ps with
        | nil => exact t.elim
        | cons p r2 =>
          obtain ⟨⟨b, e, hb⟩, t2⟩ := t
          exact ⟨⟨b, e, k _ _ hb (ne_of hb hp (by intro z; cases z))⟩, ih t2⟩
    exact tups ht
/-- how many numbers are still to be read -/
def left (n : Nat) (σ : L2.St) : Nat := match σ[3]? with
  | some (some (V.int i)) => n - i.toNat
  | _ => 0
theorem ok_answers (T : Txt K mg A) : FnOk P w K mg base CX0 12 A.answers.a A.answers.d ["calls"] (sp_answers K) := by
  obtain ⟨pN, kN, sN⟩ := T.k_NUMBERS
  refine T.f_answers.ok sc_answers (fun vs H Q E h => ?_) (fun cdv Ar outer s H vs Q E hr h => ?_)
  · obtain ⟨a, l, rfl, _⟩ := h
    rfl
  · obtain ⟨a, l, rfl, hS, hlen, hask, k⟩ := h
    obtain ⟨cs0, hc0, hans, hbig⟩ := IceM.asked_is hask
    rw [hans] at k hbig
    refine ⟨_, (pss_cons (ps_par3 (i := 1) (j := 2) (l := 3) rfl sc_answers.nd rfl rfl rfl (by decide) (by decide) (by decide) rfl rfl rfl (pa_cons (pe_make0 T.mk_Field (ok_f_init T) (hr.mono (by decide)) (by rfl) T.g_Field T.b_f_init .nil pass0) (pa_cons (pe_lst pa_nil) (pa_cons pe_int pa_nil))) (by rfl))
      (pss_cons (ps_while PassesOwn.never (pt_cmpR op_lt (pv 3) (pe_callB call_len_seq (by rfl) T.n_len (by decide +kernel) (pa_cons (pv 0) pa_nil)) (nomark _)) (pss_cons (ps_set (i := 4) sc_answers.nd rfl (Or.inl rfl) (pe_ix ix_list (pv 0) (pv 3) (fun _ _ => rfl)))
      (pss_cons (ps_set (i := 5) sc_answers.nd rfl (Or.inl rfl) (pe_op op_add (pe_op op_add (pv 3) pe_int) (pe_ix ix_tup (pe_k (by rfl) kN) (pv 4) (fun _ _ => rfl))))
      (pss_cons (ps_set (i := 6) sc_answers.nd rfl (Or.inl rfl) (pe_lock (pe_meth (pv 1) T.cl_Field T.m_f_answer (ok_f_answer T) (hr.mono (by decide)) T.b_f_answer .nil pass0 (pa_cons (pv 4) (pa_cons (pe_slice sl_list (pv 0) (po_some (pe_op op_add (pv 3) pe_int)) (po_some (pv 5))) pa_nil)))))
      (pss_cons (ps_expr (pe_bm PySem.F.plainAttrs_list PySem.F.slot_list_append PySem.F.type_list_append mt_append (pv 2) (pa_cons (pe_callB call_len_seq (by rfl) T.n_len (by decide +kernel) (pa_cons (pv 6) pa_nil)) pa_nil)))
      (pss_cons (ps_expr (pe_bm PySem.F.plainAttrs_list PySem.F.slot_list_extend PySem.F.type_list_extend mt_extend (pv 2) (pa_cons (pv 6) pa_nil)))
      (pss_one (ps_set (i := 3) sc_answers.nd rfl (Or.inl rfl) (pv 5)))))))))
      (pss_one (ps_ret (pv 2))))), ?_⟩
    -- the three names at the start
    refine fun x dx nx nd ne => ⟨x, dx, rfl, upd_same, fun H1 hF1 mo1 => ⟨rfl, ?_⟩⟩
    have s1 : Same H H1 := Same.made nx nd mo1
    refine ⟨Nat.zero_le _, fun pf hpf => ⟨_, _, _, rfl, ?_⟩⟩
    have hA : a ≠ pf ∨ ∀ H' : Hp, SqL K H' a (nts l) := by
      rcases hS with (z | ⟨o, z⟩) | z
      · exact .inl (ne_of_none (s1 _ _ z) hpf)
      · exact .inl (ne_of_none (s1 _ _ z) hpf)
      · exact .inr fun _ => .inr z
    have off : ∀ {H' H'' : Hp}, SqL K H' a (nts l) → Most H' H'' pf → SqL K H'' a (nts l) := by
      intro H' H'' z mo
      rcases hA with hA | hA
      · rcases z with (z | ⟨o, z⟩) | z
        · exact .inl (.inl (mo _ _ z hA))
        · exact .inl (.inr ⟨o, mo _ _ z hA⟩)
        · exact .inr z
      · exact hA H''
    have hF0 : ∀ o, FieldAt A (upd (upd H1 pf (.lst [])) pf o) x none := fun o => by
      rw [upd_upd]
      exact hF1.same (Same.new hpf)
    have s2 := Same.new (o := .lst []) hpf
    have l2 : upd H1 pf (.lst []) pf = some (.lst []) := upd_same
    generalize upd H1 pf (.lst []) = H2 at s2 l2 hF0 ⊢
    refine while_by (fun σ H' => ∃ (i : Nat) (fnd : List Int) (st : Km563.State) (cs : List (List (List Int))) (fuel : Nat) (vw ve vt : Option V), σ = [some (.ref a), some (.ref x), some (.ref pf), some (.int (i : Int)), vw, ve, vt] ∧ i ≤ l.length ∧
        PyFlat.calls PyKm563.shape fuel (Km563.toInts (l.drop i)) = some cs ∧ (∀ o, FieldAt A (upd H' pf o) x st) ∧ IceM.GoodS st ∧ H' pf = some (.lst (fnd.map V.int)) ∧ IceM.due none cs0 = fnd ++ IceM.due st cs ∧ SqL K H' a (nts l))
      (fun σ _ => left l.length σ)
      ⟨0, [], none, cs0, _, none, none, none, rfl, Nat.zero_le _, hc0, hF0, trivial, l2, rfl, (s1.trans s2).seq hS⟩ ?_ (fun σ H Q Q' mo h => by
        obtain ⟨v, e1, v0, e2, p, ys, e3, hs, i, j, e4, e5, kk, e6, q⟩ := h
        exact ⟨v, e1, v0, e2, p, ys, e3, hs, i, j, e4, e5, kk, e6, mo _ _ q⟩)
    rintro σ H3 ⟨i, fnd, st, cs, fuel, vw, ve, vt, rfl, hi, hcs, hF, hgd, hfnd, hdue, hS3⟩
    refine ⟨_, rfl, _, rfl, a, _, rfl, .inl hS3, _, _, rfl, rfl, _, rfl, ?_⟩
    rw [nts_len]
    by_cases hil : i < l.length
    · refine w_true (decide_eq_true (by omega)) ?_
      obtain ⟨u, hu⟩ : ∃ u, l[i]? = some u := ⟨_, List.getElem?_eq_getElem hil⟩
      have hdrop : l.drop i = u :: l.drop (i + 1) := by
        rw [List.drop_eq_getElem_cons hil]
        rw [List.getElem?_eq_getElem hil] at hu
        rw [Option.some.inj hu]
      rw [hdrop] at hcs
      obtain ⟨n, c, f', cs', hn, hnl, hdec, hcs', hdue'⟩ := IceM.read_one hcs st
      rw [List.length_drop] at hnl
      -- the call's number
      refine ⟨_, rfl, _, rfl, a, _, _, .int (u : Int), rfl, rfl, hS3, at_of (j := i) rfl (by rw [nts_map, List.getElem?_map, hu]; rfl), ?_⟩
      -- where the call ends
      refine ⟨_, rfl, _, _, rfl, rfl, _, rfl, pN, _, _, .int (n : Int), rfl, rfl, sN H3, ?_, _, _, rfl, rfl, ?_⟩
      · refine at_of (j := u) rfl ?_
        have e : ([3, 1, 2, 1, 0, 1, 1, 0, 0, 2, 1, 0, 2, 1, 1, 3, 3, 2, 2, 1, 0, 0, 0] : List Int).map V.int = nts IceM.NUM := rfl
        rw [e, nts_map, List.getElem?_map, hn]
        rfl
      -- the call itself, while the list of what was found is locked: so what is told is another list
      refine ⟨pf, _, hfnd, trivial, fun od => ?_⟩
      have hF3 := hF (.frz od (.lst (fnd.map V.int)))
      have hS3' := off (H'' := upd H3 pf (.frz od (.lst (fnd.map V.int)))) hS3 (fun b o e hb => by rw [upd_ne hb]; exact e)
      have hz3 : upd H3 pf (.frz od (.lst (fnd.map V.int))) pf = some (.frz od (.lst (fnd.map V.int))) := upd_same
      generalize upd H3 pf (.frz od (.lst (fnd.map V.int))) = H3' at hF3 hS3' hz3 ⊢
      obtain ⟨df, v, hfx, hv⟩ := hF3
      have hF3 : FieldAt A H3' x st := ⟨df, v, hfx, hv⟩
      refine ⟨_, rfl, x, df, _, rfl, hfx, fF_no v (by decide +kernel), _, rfl, _, rfl, _, rfl, _, _, rfl, rfl, _, rfl, _, rfl, _, rfl, a, _, rfl, hS3', fun q hq => ?_⟩
      dsimp only
      rw [cut_is (by omega)]
      have s4 := Same.new (o := .lst (nts ((l.drop (i + 1)).take n))) hq
      have hq4 : upd H3' q (.lst (nts ((l.drop (i + 1)).take n))) q = some (.lst (nts ((l.drop (i + 1)).take n))) := upd_same
      generalize upd H3' q (.lst (nts ((l.drop (i + 1)).take n))) = H4 at s4 hq4 ⊢
      refine ⟨x, st, u, q, _, c, rfl, hF3.same s4, hgd, hq4, hdec, fun p H5 hF5 kp5 hp5 => ?_⟩
      have hz5 : H5 pf = some (.frz od (.lst (fnd.map V.int))) := kp5 _ _ (s4 _ _ hz3) (by intro _ _ _ z; cases z)
      have hS5 := kp5.seq (s4.seq hS3')
      have npp : p ≠ pf := ne_of hp5 hz5 (by intro z; cases z)
      refine ⟨hz5, ?_⟩
      have room : fnd.length + (1 + (IceM.nums (Km563.step st c).2).length) ≤ 10000000 := by
        rw [hdue, hdue', List.length_append, List.length_append, List.length_cons] at hbig
        omega
      have big : (10000000 : Nat) ≤ sizeLine := by decide
      -- what was told is put behind what was found
      refine ⟨_, rfl, .inl ⟨rfl, _, SqL.of upd_same⟩, _, rfl, p, _, rfl, .inl (SqL.of ((upd_ne npp).trans hp5)), pf, _, _, rfl, rfl, upd_same, (by rw [List.length_map]; omega), ?_⟩
      refine ⟨_, rfl, .inl ⟨rfl, _, SqL.of upd_same⟩, _, rfl, pf, p, _, _, rfl, rfl, upd_same, (upd_ne npp).trans ((upd_ne npp).trans hp5), ?_, ?_⟩
      · rw [List.length_append, List.length_map, rs_nums, List.length_map]
        show fnd.length + 1 + _ ≤ _
        omega
      · rw [upd_upd, upd_upd]
        refine ⟨_, rfl, ⟨i + 1 + n, fnd ++ ((((IceM.nums (Km563.step st c).2).length : Nat) : Int) :: IceM.nums (Km563.step st c).2), (Km563.step st c).1, cs', f', some (.int (u : Int)), some (.int ((i : Int) + 1 + (n : Int))), some (.ref p), rfl, by omega, ?_, fun o => ?_, IceM.step_good hgd c, ?_, ?_, ?_⟩, ?_⟩
        · rw [List.drop_drop] at hcs'
          rw [show i + 1 + n = i + 1 + n from rfl]
          exact hcs'
        · rw [upd_upd]
          exact hF5.away hz5 fun b o e hb => by
            rw [upd_ne hb]
            exact e
        · rw [upd_same, rs_nums, List.length_map, List.map_append, List.append_assoc]
          rfl
        · rw [hdue, hdue', List.append_assoc]
        · exact off hS5 fun b o e hb => by
            rw [upd_ne hb]
            exact e
        · show l.length - ((i : Int) + 1 + (n : Int)).toNat < l.length - (i : Int).toNat
          omega
    · refine w_false (decide_eq_false (by omega)) ?_
      have ei : i = l.length := by omega
      subst ei
      rw [List.drop_length] at hcs
      rw [IceM.read_end hcs] at hdue
      refine ⟨_, rfl, k _ _ ?_⟩
      rw [hfnd, hdue]
      show some (HO.lst (List.map V.int fnd)) = some (HO.lst (List.map V.int (fnd ++ [])))
      rw [List.append_nil]
end
end IceW
set_option linter.all false
set_option maxRecDepth 100000
set_option maxHeartbeats 8000000
/-! The end: what the top has left, and the row. -/
namespace IceW
open PySem PySem.Spec PyProof.Rows L2
open PySem.W (Codec)
theorem all_mk {P : Program} {w : World} {K : PySem.W.Frag} {h : Heap} {mg : Str → Option Value} {fa : Addr} (X : K.In h) (G : h.Ns mainGlobals mg) (hfa : mg "answers" = some (.ref fa))
    {CG CI CF pN : Addr} {nN : Nat} {odN : Option Addr} {slN : Array (Option Value)} {tn0 tn1 tn2 tn3 tn4 tn5 tn6 tn7 tn8 tn9 tn10 tn11 tn12 tn13 tn14 tn15 tn16 tn17 tn18 tn19 tn20 tn21 tn22 t_MOST_THICKNESS t_NO_CELL t_MEASURED t_OUTSIDE t_NOT_POSSIBLE t_MOST_STEP t_SAFE t_UNCERTAIN t_NO_INSTANCE t_MOST_SIDE t_CREATE : Tok}
    {x_is_consistent x_is_consistent_with x_are_consistent x_lower_at x_upper_at x_uncertainty_at x_total_of x_without_cell x_step_between x_smallest_step x_g_init x_g_cell_count x_g_cells x_g_has_cell x_g_column_of x_g_row_of x_g_distance x_g_neighbours x_steps_from x_is_beside x_cell_before x_route x_counted x_i_init x_i_set_max_step x_i_measure_error x_i_with_measurement x_i_measure x_i_is_measured x_i_remove_measurement x_i_list_measurements x_i_lower x_i_upper x_i_uncertainty x_i_lower_bounds x_i_upper_bounds x_i_is_possible x_i_most_uncertain_cell x_i_status_of x_i_check_cell x_i_cells_with x_i_listed_cells x_i_have_cells x_i_route_for x_i_safe_route x_i_safe_route_length x_i_max_safe_thickness x_i_total_with x_i_total_uncertainty_with x_i_worst_total_uncertainty x_i_smallest_consistent_step x_i_total_uncertainty x_i_summary x_is_size x_one_cell x_change x_bounds x_safety x_totals x_f_init x_f_create x_f_answer x_answers : Addr}
    {od_is_consistent an_is_consistent od_is_consistent_with an_is_consistent_with od_are_consistent an_are_consistent od_lower_at an_lower_at od_upper_at an_upper_at od_uncertainty_at an_uncertainty_at od_total_of an_total_of od_without_cell an_without_cell od_step_between an_step_between od_smallest_step an_smallest_step od_g_init an_g_init od_g_cell_count an_g_cell_count od_g_cells an_g_cells od_g_has_cell an_g_has_cell od_g_column_of an_g_column_of od_g_row_of an_g_row_of od_g_distance an_g_distance od_g_neighbours an_g_neighbours od_steps_from an_steps_from od_is_beside an_is_beside od_cell_before an_cell_before od_route an_route od_counted an_counted od_i_init an_i_init od_i_set_max_step an_i_set_max_step od_i_measure_error an_i_measure_error od_i_with_measurement an_i_with_measurement od_i_measure an_i_measure od_i_is_measured an_i_is_measured od_i_remove_measurement an_i_remove_measurement od_i_list_measurements an_i_list_measurements od_i_lower an_i_lower od_i_upper an_i_upper od_i_uncertainty an_i_uncertainty od_i_lower_bounds an_i_lower_bounds od_i_upper_bounds an_i_upper_bounds od_i_is_possible an_i_is_possible od_i_most_uncertain_cell an_i_most_uncertain_cell od_i_status_of an_i_status_of od_i_check_cell an_i_check_cell od_i_cells_with an_i_cells_with od_i_listed_cells an_i_listed_cells od_i_have_cells an_i_have_cells od_i_route_for an_i_route_for od_i_safe_route an_i_safe_route od_i_safe_route_length an_i_safe_route_length od_i_max_safe_thickness an_i_max_safe_thickness od_i_total_with an_i_total_with od_i_total_uncertainty_with an_i_total_uncertainty_with od_i_worst_total_uncertainty an_i_worst_total_uncertainty od_i_smallest_consistent_step an_i_smallest_consistent_step od_i_total_uncertainty an_i_total_uncertainty od_i_summary an_i_summary od_is_size an_is_size od_one_cell an_one_cell od_change an_change od_bounds an_bounds od_safety an_safety od_totals an_totals od_f_init an_f_init od_f_create an_f_create od_f_answer an_f_answer od_answers an_answers : Option Addr}
    {sl_is_consistent sl_is_consistent_with sl_are_consistent sl_lower_at sl_upper_at sl_uncertainty_at sl_total_of sl_without_cell sl_step_between sl_smallest_step sl_g_init sl_g_cell_count sl_g_cells sl_g_has_cell sl_g_column_of sl_g_row_of sl_g_distance sl_g_neighbours sl_steps_from sl_is_beside sl_cell_before sl_route sl_counted sl_i_init sl_i_set_max_step sl_i_measure_error sl_i_with_measurement sl_i_measure sl_i_is_measured sl_i_remove_measurement sl_i_list_measurements sl_i_lower sl_i_upper sl_i_uncertainty sl_i_lower_bounds sl_i_upper_bounds sl_i_is_possible sl_i_most_uncertain_cell sl_i_status_of sl_i_check_cell sl_i_cells_with sl_i_listed_cells sl_i_have_cells sl_i_route_for sl_i_safe_route sl_i_safe_route_length sl_i_max_safe_thickness sl_i_total_with sl_i_total_uncertainty_with sl_i_worst_total_uncertainty sl_i_smallest_consistent_step sl_i_total_uncertainty sl_i_summary sl_is_size sl_one_cell sl_change sl_bounds sl_safety sl_totals sl_f_init sl_f_create sl_f_answer sl_answers : Array (Option Value)}
    {oc_is_consistent kV_is_consistent dc_is_consistent pm_is_consistent cd_is_consistent ct_is_consistent oc_is_consistent_with kV_is_consistent_with dc_is_consistent_with pm_is_consistent_with cd_is_consistent_with ct_is_consistent_with oc_are_consistent kV_are_consistent dc_are_consistent pm_are_consistent cd_are_consistent ct_are_consistent oc_lower_at kV_lower_at dc_lower_at pm_lower_at cd_lower_at ct_lower_at oc_upper_at kV_upper_at dc_upper_at pm_upper_at cd_upper_at ct_upper_at oc_uncertainty_at kV_uncertainty_at dc_uncertainty_at pm_uncertainty_at cd_uncertainty_at ct_uncertainty_at oc_total_of kV_total_of dc_total_of pm_total_of cd_total_of ct_total_of oc_without_cell kV_without_cell dc_without_cell pm_without_cell cd_without_cell ct_without_cell oc_step_between kV_step_between dc_step_between pm_step_between cd_step_between ct_step_between oc_smallest_step kV_smallest_step dc_smallest_step pm_smallest_step cd_smallest_step ct_smallest_step oc_g_init kV_g_init dc_g_init pm_g_init cd_g_init ct_g_init oc_g_cell_count kV_g_cell_count dc_g_cell_count pm_g_cell_count cd_g_cell_count ct_g_cell_count oc_g_cells kV_g_cells dc_g_cells pm_g_cells cd_g_cells ct_g_cells oc_g_has_cell kV_g_has_cell dc_g_has_cell pm_g_has_cell cd_g_has_cell ct_g_has_cell oc_g_column_of kV_g_column_of dc_g_column_of pm_g_column_of cd_g_column_of ct_g_column_of oc_g_row_of kV_g_row_of dc_g_row_of pm_g_row_of cd_g_row_of ct_g_row_of oc_g_distance kV_g_distance dc_g_distance pm_g_distance cd_g_distance ct_g_distance oc_g_neighbours kV_g_neighbours dc_g_neighbours pm_g_neighbours cd_g_neighbours ct_g_neighbours oc_steps_from kV_steps_from dc_steps_from pm_steps_from cd_steps_from ct_steps_from oc_is_beside kV_is_beside dc_is_beside pm_is_beside cd_is_beside ct_is_beside oc_cell_before kV_cell_before dc_cell_before pm_cell_before cd_cell_before ct_cell_before oc_route kV_route dc_route pm_route cd_route ct_route oc_counted kV_counted dc_counted pm_counted cd_counted ct_counted oc_i_init kV_i_init dc_i_init pm_i_init cd_i_init ct_i_init oc_i_set_max_step kV_i_set_max_step dc_i_set_max_step pm_i_set_max_step cd_i_set_max_step ct_i_set_max_step oc_i_measure_error kV_i_measure_error dc_i_measure_error pm_i_measure_error cd_i_measure_error ct_i_measure_error oc_i_with_measurement kV_i_with_measurement dc_i_with_measurement pm_i_with_measurement cd_i_with_measurement ct_i_with_measurement oc_i_measure kV_i_measure dc_i_measure pm_i_measure cd_i_measure ct_i_measure oc_i_is_measured kV_i_is_measured dc_i_is_measured pm_i_is_measured cd_i_is_measured ct_i_is_measured oc_i_remove_measurement kV_i_remove_measurement dc_i_remove_measurement pm_i_remove_measurement cd_i_remove_measurement ct_i_remove_measurement oc_i_list_measurements kV_i_list_measurements dc_i_list_measurements pm_i_list_measurements cd_i_list_measurements ct_i_list_measurements oc_i_lower kV_i_lower dc_i_lower pm_i_lower cd_i_lower ct_i_lower oc_i_upper kV_i_upper dc_i_upper pm_i_upper cd_i_upper ct_i_upper oc_i_uncertainty kV_i_uncertainty dc_i_uncertainty pm_i_uncertainty cd_i_uncertainty ct_i_uncertainty oc_i_lower_bounds kV_i_lower_bounds dc_i_lower_bounds pm_i_lower_bounds cd_i_lower_bounds ct_i_lower_bounds oc_i_upper_bounds kV_i_upper_bounds dc_i_upper_bounds pm_i_upper_bounds cd_i_upper_bounds ct_i_upper_bounds oc_i_is_possible kV_i_is_possible dc_i_is_possible pm_i_is_possible cd_i_is_possible ct_i_is_possible oc_i_most_uncertain_cell kV_i_most_uncertain_cell dc_i_most_uncertain_cell pm_i_most_uncertain_cell cd_i_most_uncertain_cell ct_i_most_uncertain_cell oc_i_status_of kV_i_status_of dc_i_status_of pm_i_status_of cd_i_status_of ct_i_status_of oc_i_check_cell kV_i_check_cell dc_i_check_cell pm_i_check_cell cd_i_check_cell ct_i_check_cell oc_i_cells_with kV_i_cells_with dc_i_cells_with pm_i_cells_with cd_i_cells_with ct_i_cells_with oc_i_listed_cells kV_i_listed_cells dc_i_listed_cells pm_i_listed_cells cd_i_listed_cells ct_i_listed_cells oc_i_have_cells kV_i_have_cells dc_i_have_cells pm_i_have_cells cd_i_have_cells ct_i_have_cells oc_i_route_for kV_i_route_for dc_i_route_for pm_i_route_for cd_i_route_for ct_i_route_for oc_i_safe_route kV_i_safe_route dc_i_safe_route pm_i_safe_route cd_i_safe_route ct_i_safe_route oc_i_safe_route_length kV_i_safe_route_length dc_i_safe_route_length pm_i_safe_route_length cd_i_safe_route_length ct_i_safe_route_length oc_i_max_safe_thickness kV_i_max_safe_thickness dc_i_max_safe_thickness pm_i_max_safe_thickness cd_i_max_safe_thickness ct_i_max_safe_thickness oc_i_total_with kV_i_total_with dc_i_total_with pm_i_total_with cd_i_total_with ct_i_total_with oc_i_total_uncertainty_with kV_i_total_uncertainty_with dc_i_total_uncertainty_with pm_i_total_uncertainty_with cd_i_total_uncertainty_with ct_i_total_uncertainty_with oc_i_worst_total_uncertainty kV_i_worst_total_uncertainty dc_i_worst_total_uncertainty pm_i_worst_total_uncertainty cd_i_worst_total_uncertainty ct_i_worst_total_uncertainty oc_i_smallest_consistent_step kV_i_smallest_consistent_step dc_i_smallest_consistent_step pm_i_smallest_consistent_step cd_i_smallest_consistent_step ct_i_smallest_consistent_step oc_i_total_uncertainty kV_i_total_uncertainty dc_i_total_uncertainty pm_i_total_uncertainty cd_i_total_uncertainty ct_i_total_uncertainty oc_i_summary kV_i_summary dc_i_summary pm_i_summary cd_i_summary ct_i_summary oc_is_size kV_is_size dc_is_size pm_is_size cd_is_size ct_is_size oc_one_cell kV_one_cell dc_one_cell pm_one_cell cd_one_cell ct_one_cell oc_change kV_change dc_change pm_change cd_change ct_change oc_bounds kV_bounds dc_bounds pm_bounds cd_bounds ct_bounds oc_safety kV_safety dc_safety pm_safety cd_safety ct_safety oc_totals kV_totals dc_totals pm_totals cd_totals ct_totals oc_f_init kV_f_init dc_f_init pm_f_init cd_f_init ct_f_init oc_f_create kV_f_create dc_f_create pm_f_create cd_f_create ct_f_create oc_f_answer kV_f_answer dc_f_answer pm_f_answer cd_f_answer ct_f_answer oc_answers kV_answers dc_answers pm_answers cd_answers ct_answers : Value}
    (aCG : PySem.W.nsIn K mainGlobals "Grid" = some (some (.ref CG)))
    (pgG : PySem.W.plainGet K CG Str.empty = true)
    (hdG : PySem.W.hasDictIn K CG = true)
    (poG : PySem.W.plainOver K CG = true)
    (saG : PySem.W.findIn K (.ref CG) "__setattr__" = some (some (.builtin "object.__setattr__")))
    (mkG : PySem.W.makesIn K CG = true)
    (kcG : PySem.W.keepIn K (.ref CG) = true)
    (nfG_columns : PySem.W.findIn K (.ref CG) "columns" = some none)
    (nfG_rows : PySem.W.findIn K (.ref CG) "rows" = some none)
    (aCI : PySem.W.nsIn K mainGlobals "Instance" = some (some (.ref CI)))
    (pgI : PySem.W.plainGet K CI Str.empty = true)
    (hdI : PySem.W.hasDictIn K CI = true)
    (poI : PySem.W.plainOver K CI = true)
    (saI : PySem.W.findIn K (.ref CI) "__setattr__" = some (some (.builtin "object.__setattr__")))
    (mkI : PySem.W.makesIn K CI = true)
    (kcI : PySem.W.keepIn K (.ref CI) = true)
    (nfI_grid : PySem.W.findIn K (.ref CI) "grid" = some none)
    (nfI_step : PySem.W.findIn K (.ref CI) "step" = some none)
    (nfI_measurements : PySem.W.findIn K (.ref CI) "measurements" = some none)
    (aCF : PySem.W.nsIn K mainGlobals "Field" = some (some (.ref CF)))
    (pgF : PySem.W.plainGet K CF Str.empty = true)
    (hdF : PySem.W.hasDictIn K CF = true)
    (poF : PySem.W.plainOver K CF = true)
    (saF : PySem.W.findIn K (.ref CF) "__setattr__" = some (some (.builtin "object.__setattr__")))
    (mkF : PySem.W.makesIn K CF = true)
    (kcF : PySem.W.keepIn K (.ref CF) = true)
    (nfF_instance : PySem.W.findIn K (.ref CF) "instance" = some none)
    (z_abs : PySem.W.nsIn K mainGlobals "abs" = some none)
    (z_max : PySem.W.nsIn K mainGlobals "max" = some none)
    (z_min : PySem.W.nsIn K mainGlobals "min" = some none)
    (z_sum : PySem.W.nsIn K mainGlobals "sum" = some none)
    (z_all : PySem.W.nsIn K mainGlobals "all" = some none)
    (z_any : PySem.W.nsIn K mainGlobals "any" = some none)
    (z_len : PySem.W.nsIn K mainGlobals "len" = some none)
    (z_list : PySem.W.nsIn K mainGlobals "list" = some none)
    (z_range : PySem.W.nsIn K mainGlobals "range" = some none)
    (z_int : PySem.W.nsIn K mainGlobals "int" = some none)
    (c_MOST_THICKNESS : PySem.W.nsIn K mainGlobals "MOST_THICKNESS" = some (some (.int (99) t_MOST_THICKNESS)))
    (c_NO_CELL : PySem.W.nsIn K mainGlobals "NO_CELL" = some (some (.int (-2) t_NO_CELL)))
    (c_MEASURED : PySem.W.nsIn K mainGlobals "MEASURED" = some (some (.int (-17) t_MEASURED)))
    (c_OUTSIDE : PySem.W.nsIn K mainGlobals "OUTSIDE" = some (some (.int (-22) t_OUTSIDE)))
    (c_NOT_POSSIBLE : PySem.W.nsIn K mainGlobals "NOT_POSSIBLE" = some (some (.int (-33) t_NOT_POSSIBLE)))
    (c_MOST_STEP : PySem.W.nsIn K mainGlobals "MOST_STEP" = some (some (.int (20) t_MOST_STEP)))
    (c_SAFE : PySem.W.nsIn K mainGlobals "SAFE" = some (some (.int (1) t_SAFE)))
    (c_UNCERTAIN : PySem.W.nsIn K mainGlobals "UNCERTAIN" = some (some (.int (2) t_UNCERTAIN)))
    (c_NO_INSTANCE : PySem.W.nsIn K mainGlobals "NO_INSTANCE" = some (some (.int (-11) t_NO_INSTANCE)))
    (c_MOST_SIDE : PySem.W.nsIn K mainGlobals "MOST_SIDE" = some (some (.int (5) t_MOST_SIDE)))
    (c_CREATE : PySem.W.nsIn K mainGlobals "CREATE" = some (some (.int (0) t_CREATE)))
    (c_NUMBERS : PySem.W.nsIn K mainGlobals "NUMBERS" = some (some (.ref pN)))
    (cl_NUMBERS : K.lookup pN = some ⟨.type "tuple", odN, .seq #[.int 3 tn0, .int 1 tn1, .int 2 tn2, .int 1 tn3, .int 0 tn4, .int 1 tn5, .int 1 tn6, .int 0 tn7, .int 0 tn8, .int 2 tn9, .int 1 tn10, .int 0 tn11, .int 2 tn12, .int 1 tn13, .int 1 tn14, .int 3 tn15, .int 3 tn16, .int 2 tn17, .int 2 tn18, .int 1 tn19, .int 0 tn20, .int 0 tn21, .int 0 tn22] nN, slN⟩)
    (a_is_consistent : PySem.W.nsIn K mainGlobals "is_consistent" = some (some (.ref x_is_consistent)))
    (l_is_consistent : K.lookup x_is_consistent = some ⟨oc_is_consistent, od_is_consistent, .func (PySem.W.fnOf "is_consistent" "is_consistent" (defArgs s_is_consistent) (defBody s_is_consistent) (defScope s_is_consistent) .none kV_is_consistent dc_is_consistent pm_is_consistent an_is_consistent cd_is_consistent ct_is_consistent), sl_is_consistent⟩)
    (cdis_consistent : PySem.W.codeIn K cd_is_consistent "is_consistent" = true)
    (kp_is_consistent : PySem.W.keepIn K (.ref x_is_consistent) = true)
    (a_is_consistent_with : PySem.W.nsIn K mainGlobals "is_consistent_with" = some (some (.ref x_is_consistent_with)))
    (l_is_consistent_with : K.lookup x_is_consistent_with = some ⟨oc_is_consistent_with, od_is_consistent_with, .func (PySem.W.fnOf "is_consistent_with" "is_consistent_with" (defArgs s_is_consistent_with) (defBody s_is_consistent_with) (defScope s_is_consistent_with) .none kV_is_consistent_with dc_is_consistent_with pm_is_consistent_with an_is_consistent_with cd_is_consistent_with ct_is_consistent_with), sl_is_consistent_with⟩)
    (cdis_consistent_with : PySem.W.codeIn K cd_is_consistent_with "is_consistent_with" = true)
    (kp_is_consistent_with : PySem.W.keepIn K (.ref x_is_consistent_with) = true)
    (a_are_consistent : PySem.W.nsIn K mainGlobals "are_consistent" = some (some (.ref x_are_consistent)))
    (l_are_consistent : K.lookup x_are_consistent = some ⟨oc_are_consistent, od_are_consistent, .func (PySem.W.fnOf "are_consistent" "are_consistent" (defArgs s_are_consistent) (defBody s_are_consistent) (defScope s_are_consistent) .none kV_are_consistent dc_are_consistent pm_are_consistent an_are_consistent cd_are_consistent ct_are_consistent), sl_are_consistent⟩)
    (cdare_consistent : PySem.W.codeIn K cd_are_consistent "are_consistent" = true)
    (kp_are_consistent : PySem.W.keepIn K (.ref x_are_consistent) = true)
    (a_lower_at : PySem.W.nsIn K mainGlobals "lower_at" = some (some (.ref x_lower_at)))
    (l_lower_at : K.lookup x_lower_at = some ⟨oc_lower_at, od_lower_at, .func (PySem.W.fnOf "lower_at" "lower_at" (defArgs s_lower_at) (defBody s_lower_at) (defScope s_lower_at) .none kV_lower_at dc_lower_at pm_lower_at an_lower_at cd_lower_at ct_lower_at), sl_lower_at⟩)
    (cdlower_at : PySem.W.codeIn K cd_lower_at "lower_at" = true)
    (kp_lower_at : PySem.W.keepIn K (.ref x_lower_at) = true)
    (a_upper_at : PySem.W.nsIn K mainGlobals "upper_at" = some (some (.ref x_upper_at)))
    (l_upper_at : K.lookup x_upper_at = some ⟨oc_upper_at, od_upper_at, .func (PySem.W.fnOf "upper_at" "upper_at" (defArgs s_upper_at) (defBody s_upper_at) (defScope s_upper_at) .none kV_upper_at dc_upper_at pm_upper_at an_upper_at cd_upper_at ct_upper_at), sl_upper_at⟩)
    (cdupper_at : PySem.W.codeIn K cd_upper_at "upper_at" = true)
    (kp_upper_at : PySem.W.keepIn K (.ref x_upper_at) = true)
    (a_uncertainty_at : PySem.W.nsIn K mainGlobals "uncertainty_at" = some (some (.ref x_uncertainty_at)))
    (l_uncertainty_at : K.lookup x_uncertainty_at = some ⟨oc_uncertainty_at, od_uncertainty_at, .func (PySem.W.fnOf "uncertainty_at" "uncertainty_at" (defArgs s_uncertainty_at) (defBody s_uncertainty_at) (defScope s_uncertainty_at) .none kV_uncertainty_at dc_uncertainty_at pm_uncertainty_at an_uncertainty_at cd_uncertainty_at ct_uncertainty_at), sl_uncertainty_at⟩)
    (cduncertainty_at : PySem.W.codeIn K cd_uncertainty_at "uncertainty_at" = true)
    (kp_uncertainty_at : PySem.W.keepIn K (.ref x_uncertainty_at) = true)
    (a_total_of : PySem.W.nsIn K mainGlobals "total_of" = some (some (.ref x_total_of)))
    (l_total_of : K.lookup x_total_of = some ⟨oc_total_of, od_total_of, .func (PySem.W.fnOf "total_of" "total_of" (defArgs s_total_of) (defBody s_total_of) (defScope s_total_of) .none kV_total_of dc_total_of pm_total_of an_total_of cd_total_of ct_total_of), sl_total_of⟩)
    (cdtotal_of : PySem.W.codeIn K cd_total_of "total_of" = true)
    (kp_total_of : PySem.W.keepIn K (.ref x_total_of) = true)
    (a_without_cell : PySem.W.nsIn K mainGlobals "without_cell" = some (some (.ref x_without_cell)))
    (l_without_cell : K.lookup x_without_cell = some ⟨oc_without_cell, od_without_cell, .func (PySem.W.fnOf "without_cell" "without_cell" (defArgs s_without_cell) (defBody s_without_cell) (defScope s_without_cell) .none kV_without_cell dc_without_cell pm_without_cell an_without_cell cd_without_cell ct_without_cell), sl_without_cell⟩)
    (cdwithout_cell : PySem.W.codeIn K cd_without_cell "without_cell" = true)
    (kp_without_cell : PySem.W.keepIn K (.ref x_without_cell) = true)
    (a_step_between : PySem.W.nsIn K mainGlobals "step_between" = some (some (.ref x_step_between)))
    (l_step_between : K.lookup x_step_between = some ⟨oc_step_between, od_step_between, .func (PySem.W.fnOf "step_between" "step_between" (defArgs s_step_between) (defBody s_step_between) (defScope s_step_between) .none kV_step_between dc_step_between pm_step_between an_step_between cd_step_between ct_step_between), sl_step_between⟩)
    (cdstep_between : PySem.W.codeIn K cd_step_between "step_between" = true)
    (kp_step_between : PySem.W.keepIn K (.ref x_step_between) = true)
    (a_smallest_step : PySem.W.nsIn K mainGlobals "smallest_step" = some (some (.ref x_smallest_step)))
    (l_smallest_step : K.lookup x_smallest_step = some ⟨oc_smallest_step, od_smallest_step, .func (PySem.W.fnOf "smallest_step" "smallest_step" (defArgs s_smallest_step) (defBody s_smallest_step) (defScope s_smallest_step) .none kV_smallest_step dc_smallest_step pm_smallest_step an_smallest_step cd_smallest_step ct_smallest_step), sl_smallest_step⟩)
    (cdsmallest_step : PySem.W.codeIn K cd_smallest_step "smallest_step" = true)
    (kp_smallest_step : PySem.W.keepIn K (.ref x_smallest_step) = true)
    (a_g_init : PySem.W.findIn K (.ref CG) "__init__" = some (some (.ref x_g_init)))
    (i_g_init : PySem.W.isFn K (.ref x_g_init) = true)
    (l_g_init : K.lookup x_g_init = some ⟨oc_g_init, od_g_init, .func (PySem.W.fnOf "__init__" "Grid.__init__" (defArgs s_g_init) (defBody s_g_init) (defScope s_g_init) .none kV_g_init dc_g_init pm_g_init an_g_init cd_g_init ct_g_init), sl_g_init⟩)
    (cdg_init : PySem.W.codeIn K cd_g_init "Grid.__init__" = true)
    (kp_g_init : PySem.W.keepIn K (.ref x_g_init) = true)
    (a_g_cell_count : PySem.W.findIn K (.ref CG) "cell_count" = some (some (.ref x_g_cell_count)))
    (i_g_cell_count : PySem.W.isFn K (.ref x_g_cell_count) = true)
    (l_g_cell_count : K.lookup x_g_cell_count = some ⟨oc_g_cell_count, od_g_cell_count, .func (PySem.W.fnOf "cell_count" "Grid.cell_count" (defArgs s_g_cell_count) (defBody s_g_cell_count) (defScope s_g_cell_count) .none kV_g_cell_count dc_g_cell_count pm_g_cell_count an_g_cell_count cd_g_cell_count ct_g_cell_count), sl_g_cell_count⟩)
    (cdg_cell_count : PySem.W.codeIn K cd_g_cell_count "Grid.cell_count" = true)
    (kp_g_cell_count : PySem.W.keepIn K (.ref x_g_cell_count) = true)
    (a_g_cells : PySem.W.findIn K (.ref CG) "cells" = some (some (.ref x_g_cells)))
    (i_g_cells : PySem.W.isFn K (.ref x_g_cells) = true)
    (l_g_cells : K.lookup x_g_cells = some ⟨oc_g_cells, od_g_cells, .func (PySem.W.fnOf "cells" "Grid.cells" (defArgs s_g_cells) (defBody s_g_cells) (defScope s_g_cells) .none kV_g_cells dc_g_cells pm_g_cells an_g_cells cd_g_cells ct_g_cells), sl_g_cells⟩)
    (cdg_cells : PySem.W.codeIn K cd_g_cells "Grid.cells" = true)
    (kp_g_cells : PySem.W.keepIn K (.ref x_g_cells) = true)
    (a_g_has_cell : PySem.W.findIn K (.ref CG) "has_cell" = some (some (.ref x_g_has_cell)))
    (i_g_has_cell : PySem.W.isFn K (.ref x_g_has_cell) = true)
    (l_g_has_cell : K.lookup x_g_has_cell = some ⟨oc_g_has_cell, od_g_has_cell, .func (PySem.W.fnOf "has_cell" "Grid.has_cell" (defArgs s_g_has_cell) (defBody s_g_has_cell) (defScope s_g_has_cell) .none kV_g_has_cell dc_g_has_cell pm_g_has_cell an_g_has_cell cd_g_has_cell ct_g_has_cell), sl_g_has_cell⟩)
    (cdg_has_cell : PySem.W.codeIn K cd_g_has_cell "Grid.has_cell" = true)
    (kp_g_has_cell : PySem.W.keepIn K (.ref x_g_has_cell) = true)
    (a_g_column_of : PySem.W.findIn K (.ref CG) "column_of" = some (some (.ref x_g_column_of)))
    (i_g_column_of : PySem.W.isFn K (.ref x_g_column_of) = true)
    (l_g_column_of : K.lookup x_g_column_of = some ⟨oc_g_column_of, od_g_column_of, .func (PySem.W.fnOf "column_of" "Grid.column_of" (defArgs s_g_column_of) (defBody s_g_column_of) (defScope s_g_column_of) .none kV_g_column_of dc_g_column_of pm_g_column_of an_g_column_of cd_g_column_of ct_g_column_of), sl_g_column_of⟩)
    (cdg_column_of : PySem.W.codeIn K cd_g_column_of "Grid.column_of" = true)
    (kp_g_column_of : PySem.W.keepIn K (.ref x_g_column_of) = true)
    (a_g_row_of : PySem.W.findIn K (.ref CG) "row_of" = some (some (.ref x_g_row_of)))
    (i_g_row_of : PySem.W.isFn K (.ref x_g_row_of) = true)
    (l_g_row_of : K.lookup x_g_row_of = some ⟨oc_g_row_of, od_g_row_of, .func (PySem.W.fnOf "row_of" "Grid.row_of" (defArgs s_g_row_of) (defBody s_g_row_of) (defScope s_g_row_of) .none kV_g_row_of dc_g_row_of pm_g_row_of an_g_row_of cd_g_row_of ct_g_row_of), sl_g_row_of⟩)
    (cdg_row_of : PySem.W.codeIn K cd_g_row_of "Grid.row_of" = true)
    (kp_g_row_of : PySem.W.keepIn K (.ref x_g_row_of) = true)
    (a_g_distance : PySem.W.findIn K (.ref CG) "distance" = some (some (.ref x_g_distance)))
    (i_g_distance : PySem.W.isFn K (.ref x_g_distance) = true)
    (l_g_distance : K.lookup x_g_distance = some ⟨oc_g_distance, od_g_distance, .func (PySem.W.fnOf "distance" "Grid.distance" (defArgs s_g_distance) (defBody s_g_distance) (defScope s_g_distance) .none kV_g_distance dc_g_distance pm_g_distance an_g_distance cd_g_distance ct_g_distance), sl_g_distance⟩)
    (cdg_distance : PySem.W.codeIn K cd_g_distance "Grid.distance" = true)
    (kp_g_distance : PySem.W.keepIn K (.ref x_g_distance) = true)
    (a_g_neighbours : PySem.W.findIn K (.ref CG) "neighbours" = some (some (.ref x_g_neighbours)))
    (i_g_neighbours : PySem.W.isFn K (.ref x_g_neighbours) = true)
    (l_g_neighbours : K.lookup x_g_neighbours = some ⟨oc_g_neighbours, od_g_neighbours, .func (PySem.W.fnOf "neighbours" "Grid.neighbours" (defArgs s_g_neighbours) (defBody s_g_neighbours) (defScope s_g_neighbours) .none kV_g_neighbours dc_g_neighbours pm_g_neighbours an_g_neighbours cd_g_neighbours ct_g_neighbours), sl_g_neighbours⟩)
    (cdg_neighbours : PySem.W.codeIn K cd_g_neighbours "Grid.neighbours" = true)
    (kp_g_neighbours : PySem.W.keepIn K (.ref x_g_neighbours) = true)
    (a_steps_from : PySem.W.nsIn K mainGlobals "steps_from" = some (some (.ref x_steps_from)))
    (l_steps_from : K.lookup x_steps_from = some ⟨oc_steps_from, od_steps_from, .func (PySem.W.fnOf "steps_from" "steps_from" (defArgs s_steps_from) (defBody s_steps_from) (defScope s_steps_from) .none kV_steps_from dc_steps_from pm_steps_from an_steps_from cd_steps_from ct_steps_from), sl_steps_from⟩)
    (cdsteps_from : PySem.W.codeIn K cd_steps_from "steps_from" = true)
    (kp_steps_from : PySem.W.keepIn K (.ref x_steps_from) = true)
    (a_is_beside : PySem.W.nsIn K mainGlobals "is_beside" = some (some (.ref x_is_beside)))
    (l_is_beside : K.lookup x_is_beside = some ⟨oc_is_beside, od_is_beside, .func (PySem.W.fnOf "is_beside" "is_beside" (defArgs s_is_beside) (defBody s_is_beside) (defScope s_is_beside) .none kV_is_beside dc_is_beside pm_is_beside an_is_beside cd_is_beside ct_is_beside), sl_is_beside⟩)
    (cdis_beside : PySem.W.codeIn K cd_is_beside "is_beside" = true)
    (kp_is_beside : PySem.W.keepIn K (.ref x_is_beside) = true)
    (a_cell_before : PySem.W.nsIn K mainGlobals "cell_before" = some (some (.ref x_cell_before)))
    (l_cell_before : K.lookup x_cell_before = some ⟨oc_cell_before, od_cell_before, .func (PySem.W.fnOf "cell_before" "cell_before" (defArgs s_cell_before) (defBody s_cell_before) (defScope s_cell_before) .none kV_cell_before dc_cell_before pm_cell_before an_cell_before cd_cell_before ct_cell_before), sl_cell_before⟩)
    (cdcell_before : PySem.W.codeIn K cd_cell_before "cell_before" = true)
    (kp_cell_before : PySem.W.keepIn K (.ref x_cell_before) = true)
    (a_route : PySem.W.nsIn K mainGlobals "route" = some (some (.ref x_route)))
    (l_route : K.lookup x_route = some ⟨oc_route, od_route, .func (PySem.W.fnOf "route" "route" (defArgs s_route) (defBody s_route) (defScope s_route) .none kV_route dc_route pm_route an_route cd_route ct_route), sl_route⟩)
    (cdroute : PySem.W.codeIn K cd_route "route" = true)
    (kp_route : PySem.W.keepIn K (.ref x_route) = true)
    (a_counted : PySem.W.nsIn K mainGlobals "counted" = some (some (.ref x_counted)))
    (l_counted : K.lookup x_counted = some ⟨oc_counted, od_counted, .func (PySem.W.fnOf "counted" "counted" (defArgs s_counted) (defBody s_counted) (defScope s_counted) .none kV_counted dc_counted pm_counted an_counted cd_counted ct_counted), sl_counted⟩)
    (cdcounted : PySem.W.codeIn K cd_counted "counted" = true)
    (kp_counted : PySem.W.keepIn K (.ref x_counted) = true)
    (a_i_init : PySem.W.findIn K (.ref CI) "__init__" = some (some (.ref x_i_init)))
    (i_i_init : PySem.W.isFn K (.ref x_i_init) = true)
    (l_i_init : K.lookup x_i_init = some ⟨oc_i_init, od_i_init, .func (PySem.W.fnOf "__init__" "Instance.__init__" (defArgs s_i_init) (defBody s_i_init) (defScope s_i_init) .none kV_i_init dc_i_init pm_i_init an_i_init cd_i_init ct_i_init), sl_i_init⟩)
    (cdi_init : PySem.W.codeIn K cd_i_init "Instance.__init__" = true)
    (kp_i_init : PySem.W.keepIn K (.ref x_i_init) = true)
    (a_i_set_max_step : PySem.W.findIn K (.ref CI) "set_max_step" = some (some (.ref x_i_set_max_step)))
    (i_i_set_max_step : PySem.W.isFn K (.ref x_i_set_max_step) = true)
    (l_i_set_max_step : K.lookup x_i_set_max_step = some ⟨oc_i_set_max_step, od_i_set_max_step, .func (PySem.W.fnOf "set_max_step" "Instance.set_max_step" (defArgs s_i_set_max_step) (defBody s_i_set_max_step) (defScope s_i_set_max_step) .none kV_i_set_max_step dc_i_set_max_step pm_i_set_max_step an_i_set_max_step cd_i_set_max_step ct_i_set_max_step), sl_i_set_max_step⟩)
    (cdi_set_max_step : PySem.W.codeIn K cd_i_set_max_step "Instance.set_max_step" = true)
    (kp_i_set_max_step : PySem.W.keepIn K (.ref x_i_set_max_step) = true)
    (a_i_measure_error : PySem.W.findIn K (.ref CI) "measure_error" = some (some (.ref x_i_measure_error)))
    (i_i_measure_error : PySem.W.isFn K (.ref x_i_measure_error) = true)
    (l_i_measure_error : K.lookup x_i_measure_error = some ⟨oc_i_measure_error, od_i_measure_error, .func (PySem.W.fnOf "measure_error" "Instance.measure_error" (defArgs s_i_measure_error) (defBody s_i_measure_error) (defScope s_i_measure_error) .none kV_i_measure_error dc_i_measure_error pm_i_measure_error an_i_measure_error cd_i_measure_error ct_i_measure_error), sl_i_measure_error⟩)
    (cdi_measure_error : PySem.W.codeIn K cd_i_measure_error "Instance.measure_error" = true)
    (kp_i_measure_error : PySem.W.keepIn K (.ref x_i_measure_error) = true)
    (a_i_with_measurement : PySem.W.findIn K (.ref CI) "with_measurement" = some (some (.ref x_i_with_measurement)))
    (i_i_with_measurement : PySem.W.isFn K (.ref x_i_with_measurement) = true)
    (l_i_with_measurement : K.lookup x_i_with_measurement = some ⟨oc_i_with_measurement, od_i_with_measurement, .func (PySem.W.fnOf "with_measurement" "Instance.with_measurement" (defArgs s_i_with_measurement) (defBody s_i_with_measurement) (defScope s_i_with_measurement) .none kV_i_with_measurement dc_i_with_measurement pm_i_with_measurement an_i_with_measurement cd_i_with_measurement ct_i_with_measurement), sl_i_with_measurement⟩)
    (cdi_with_measurement : PySem.W.codeIn K cd_i_with_measurement "Instance.with_measurement" = true)
    (kp_i_with_measurement : PySem.W.keepIn K (.ref x_i_with_measurement) = true)
    (a_i_measure : PySem.W.findIn K (.ref CI) "measure" = some (some (.ref x_i_measure)))
    (i_i_measure : PySem.W.isFn K (.ref x_i_measure) = true)
    (l_i_measure : K.lookup x_i_measure = some ⟨oc_i_measure, od_i_measure, .func (PySem.W.fnOf "measure" "Instance.measure" (defArgs s_i_measure) (defBody s_i_measure) (defScope s_i_measure) .none kV_i_measure dc_i_measure pm_i_measure an_i_measure cd_i_measure ct_i_measure), sl_i_measure⟩)
    (cdi_measure : PySem.W.codeIn K cd_i_measure "Instance.measure" = true)
    (kp_i_measure : PySem.W.keepIn K (.ref x_i_measure) = true)
    (a_i_is_measured : PySem.W.findIn K (.ref CI) "is_measured" = some (some (.ref x_i_is_measured)))
    (i_i_is_measured : PySem.W.isFn K (.ref x_i_is_measured) = true)
    (l_i_is_measured : K.lookup x_i_is_measured = some ⟨oc_i_is_measured, od_i_is_measured, .func (PySem.W.fnOf "is_measured" "Instance.is_measured" (defArgs s_i_is_measured) (defBody s_i_is_measured) (defScope s_i_is_measured) .none kV_i_is_measured dc_i_is_measured pm_i_is_measured an_i_is_measured cd_i_is_measured ct_i_is_measured), sl_i_is_measured⟩)
    (cdi_is_measured : PySem.W.codeIn K cd_i_is_measured "Instance.is_measured" = true)
    (kp_i_is_measured : PySem.W.keepIn K (.ref x_i_is_measured) = true)
    (a_i_remove_measurement : PySem.W.findIn K (.ref CI) "remove_measurement" = some (some (.ref x_i_remove_measurement)))
    (i_i_remove_measurement : PySem.W.isFn K (.ref x_i_remove_measurement) = true)
    (l_i_remove_measurement : K.lookup x_i_remove_measurement = some ⟨oc_i_remove_measurement, od_i_remove_measurement, .func (PySem.W.fnOf "remove_measurement" "Instance.remove_measurement" (defArgs s_i_remove_measurement) (defBody s_i_remove_measurement) (defScope s_i_remove_measurement) .none kV_i_remove_measurement dc_i_remove_measurement pm_i_remove_measurement an_i_remove_measurement cd_i_remove_measurement ct_i_remove_measurement), sl_i_remove_measurement⟩)
    (cdi_remove_measurement : PySem.W.codeIn K cd_i_remove_measurement "Instance.remove_measurement" = true)
    (kp_i_remove_measurement : PySem.W.keepIn K (.ref x_i_remove_measurement) = true)
    (a_i_list_measurements : PySem.W.findIn K (.ref CI) "list_measurements" = some (some (.ref x_i_list_measurements)))
    (i_i_list_measurements : PySem.W.isFn K (.ref x_i_list_measurements) = true)
    (l_i_list_measurements : K.lookup x_i_list_measurements = some ⟨oc_i_list_measurements, od_i_list_measurements, .func (PySem.W.fnOf "list_measurements" "Instance.list_measurements" (defArgs s_i_list_measurements) (defBody s_i_list_measurements) (defScope s_i_list_measurements) .none kV_i_list_measurements dc_i_list_measurements pm_i_list_measurements an_i_list_measurements cd_i_list_measurements ct_i_list_measurements), sl_i_list_measurements⟩)
    (cdi_list_measurements : PySem.W.codeIn K cd_i_list_measurements "Instance.list_measurements" = true)
    (kp_i_list_measurements : PySem.W.keepIn K (.ref x_i_list_measurements) = true)
    (a_i_lower : PySem.W.findIn K (.ref CI) "lower" = some (some (.ref x_i_lower)))
    (i_i_lower : PySem.W.isFn K (.ref x_i_lower) = true)
    (l_i_lower : K.lookup x_i_lower = some ⟨oc_i_lower, od_i_lower, .func (PySem.W.fnOf "lower" "Instance.lower" (defArgs s_i_lower) (defBody s_i_lower) (defScope s_i_lower) .none kV_i_lower dc_i_lower pm_i_lower an_i_lower cd_i_lower ct_i_lower), sl_i_lower⟩)
    (cdi_lower : PySem.W.codeIn K cd_i_lower "Instance.lower" = true)
    (kp_i_lower : PySem.W.keepIn K (.ref x_i_lower) = true)
    (a_i_upper : PySem.W.findIn K (.ref CI) "upper" = some (some (.ref x_i_upper)))
    (i_i_upper : PySem.W.isFn K (.ref x_i_upper) = true)
    (l_i_upper : K.lookup x_i_upper = some ⟨oc_i_upper, od_i_upper, .func (PySem.W.fnOf "upper" "Instance.upper" (defArgs s_i_upper) (defBody s_i_upper) (defScope s_i_upper) .none kV_i_upper dc_i_upper pm_i_upper an_i_upper cd_i_upper ct_i_upper), sl_i_upper⟩)
    (cdi_upper : PySem.W.codeIn K cd_i_upper "Instance.upper" = true)
    (kp_i_upper : PySem.W.keepIn K (.ref x_i_upper) = true)
    (a_i_uncertainty : PySem.W.findIn K (.ref CI) "uncertainty" = some (some (.ref x_i_uncertainty)))
    (i_i_uncertainty : PySem.W.isFn K (.ref x_i_uncertainty) = true)
    (l_i_uncertainty : K.lookup x_i_uncertainty = some ⟨oc_i_uncertainty, od_i_uncertainty, .func (PySem.W.fnOf "uncertainty" "Instance.uncertainty" (defArgs s_i_uncertainty) (defBody s_i_uncertainty) (defScope s_i_uncertainty) .none kV_i_uncertainty dc_i_uncertainty pm_i_uncertainty an_i_uncertainty cd_i_uncertainty ct_i_uncertainty), sl_i_uncertainty⟩)
    (cdi_uncertainty : PySem.W.codeIn K cd_i_uncertainty "Instance.uncertainty" = true)
    (kp_i_uncertainty : PySem.W.keepIn K (.ref x_i_uncertainty) = true)
    (a_i_lower_bounds : PySem.W.findIn K (.ref CI) "lower_bounds" = some (some (.ref x_i_lower_bounds)))
    (i_i_lower_bounds : PySem.W.isFn K (.ref x_i_lower_bounds) = true)
    (l_i_lower_bounds : K.lookup x_i_lower_bounds = some ⟨oc_i_lower_bounds, od_i_lower_bounds, .func (PySem.W.fnOf "lower_bounds" "Instance.lower_bounds" (defArgs s_i_lower_bounds) (defBody s_i_lower_bounds) (defScope s_i_lower_bounds) .none kV_i_lower_bounds dc_i_lower_bounds pm_i_lower_bounds an_i_lower_bounds cd_i_lower_bounds ct_i_lower_bounds), sl_i_lower_bounds⟩)
    (cdi_lower_bounds : PySem.W.codeIn K cd_i_lower_bounds "Instance.lower_bounds" = true)
    (kp_i_lower_bounds : PySem.W.keepIn K (.ref x_i_lower_bounds) = true)
    (a_i_upper_bounds : PySem.W.findIn K (.ref CI) "upper_bounds" = some (some (.ref x_i_upper_bounds)))
    (i_i_upper_bounds : PySem.W.isFn K (.ref x_i_upper_bounds) = true)
    (l_i_upper_bounds : K.lookup x_i_upper_bounds = some ⟨oc_i_upper_bounds, od_i_upper_bounds, .func (PySem.W.fnOf "upper_bounds" "Instance.upper_bounds" (defArgs s_i_upper_bounds) (defBody s_i_upper_bounds) (defScope s_i_upper_bounds) .none kV_i_upper_bounds dc_i_upper_bounds pm_i_upper_bounds an_i_upper_bounds cd_i_upper_bounds ct_i_upper_bounds), sl_i_upper_bounds⟩)
    (cdi_upper_bounds : PySem.W.codeIn K cd_i_upper_bounds "Instance.upper_bounds" = true)
    (kp_i_upper_bounds : PySem.W.keepIn K (.ref x_i_upper_bounds) = true)
    (a_i_is_possible : PySem.W.findIn K (.ref CI) "is_possible" = some (some (.ref x_i_is_possible)))
    (i_i_is_possible : PySem.W.isFn K (.ref x_i_is_possible) = true)
    (l_i_is_possible : K.lookup x_i_is_possible = some ⟨oc_i_is_possible, od_i_is_possible, .func (PySem.W.fnOf "is_possible" "Instance.is_possible" (defArgs s_i_is_possible) (defBody s_i_is_possible) (defScope s_i_is_possible) .none kV_i_is_possible dc_i_is_possible pm_i_is_possible an_i_is_possible cd_i_is_possible ct_i_is_possible), sl_i_is_possible⟩)
    (cdi_is_possible : PySem.W.codeIn K cd_i_is_possible "Instance.is_possible" = true)
    (kp_i_is_possible : PySem.W.keepIn K (.ref x_i_is_possible) = true)
    (a_i_most_uncertain_cell : PySem.W.findIn K (.ref CI) "most_uncertain_cell" = some (some (.ref x_i_most_uncertain_cell)))
    (i_i_most_uncertain_cell : PySem.W.isFn K (.ref x_i_most_uncertain_cell) = true)
    (l_i_most_uncertain_cell : K.lookup x_i_most_uncertain_cell = some ⟨oc_i_most_uncertain_cell, od_i_most_uncertain_cell, .func (PySem.W.fnOf "most_uncertain_cell" "Instance.most_uncertain_cell" (defArgs s_i_most_uncertain_cell) (defBody s_i_most_uncertain_cell) (defScope s_i_most_uncertain_cell) .none kV_i_most_uncertain_cell dc_i_most_uncertain_cell pm_i_most_uncertain_cell an_i_most_uncertain_cell cd_i_most_uncertain_cell ct_i_most_uncertain_cell), sl_i_most_uncertain_cell⟩)
    (cdi_most_uncertain_cell : PySem.W.codeIn K cd_i_most_uncertain_cell "Instance.most_uncertain_cell" = true)
    (kp_i_most_uncertain_cell : PySem.W.keepIn K (.ref x_i_most_uncertain_cell) = true)
    (a_i_status_of : PySem.W.findIn K (.ref CI) "status_of" = some (some (.ref x_i_status_of)))
    (i_i_status_of : PySem.W.isFn K (.ref x_i_status_of) = true)
    (l_i_status_of : K.lookup x_i_status_of = some ⟨oc_i_status_of, od_i_status_of, .func (PySem.W.fnOf "status_of" "Instance.status_of" (defArgs s_i_status_of) (defBody s_i_status_of) (defScope s_i_status_of) .none kV_i_status_of dc_i_status_of pm_i_status_of an_i_status_of cd_i_status_of ct_i_status_of), sl_i_status_of⟩)
    (cdi_status_of : PySem.W.codeIn K cd_i_status_of "Instance.status_of" = true)
    (kp_i_status_of : PySem.W.keepIn K (.ref x_i_status_of) = true)
    (a_i_check_cell : PySem.W.findIn K (.ref CI) "check_cell" = some (some (.ref x_i_check_cell)))
    (i_i_check_cell : PySem.W.isFn K (.ref x_i_check_cell) = true)
    (l_i_check_cell : K.lookup x_i_check_cell = some ⟨oc_i_check_cell, od_i_check_cell, .func (PySem.W.fnOf "check_cell" "Instance.check_cell" (defArgs s_i_check_cell) (defBody s_i_check_cell) (defScope s_i_check_cell) .none kV_i_check_cell dc_i_check_cell pm_i_check_cell an_i_check_cell cd_i_check_cell ct_i_check_cell), sl_i_check_cell⟩)
    (cdi_check_cell : PySem.W.codeIn K cd_i_check_cell "Instance.check_cell" = true)
    (kp_i_check_cell : PySem.W.keepIn K (.ref x_i_check_cell) = true)
    (a_i_cells_with : PySem.W.findIn K (.ref CI) "cells_with" = some (some (.ref x_i_cells_with)))
    (i_i_cells_with : PySem.W.isFn K (.ref x_i_cells_with) = true)
    (l_i_cells_with : K.lookup x_i_cells_with = some ⟨oc_i_cells_with, od_i_cells_with, .func (PySem.W.fnOf "cells_with" "Instance.cells_with" (defArgs s_i_cells_with) (defBody s_i_cells_with) (defScope s_i_cells_with) .none kV_i_cells_with dc_i_cells_with pm_i_cells_with an_i_cells_with cd_i_cells_with ct_i_cells_with), sl_i_cells_with⟩)
    (cdi_cells_with : PySem.W.codeIn K cd_i_cells_with "Instance.cells_with" = true)
    (kp_i_cells_with : PySem.W.keepIn K (.ref x_i_cells_with) = true)
    (a_i_listed_cells : PySem.W.findIn K (.ref CI) "listed_cells" = some (some (.ref x_i_listed_cells)))
    (i_i_listed_cells : PySem.W.isFn K (.ref x_i_listed_cells) = true)
    (l_i_listed_cells : K.lookup x_i_listed_cells = some ⟨oc_i_listed_cells, od_i_listed_cells, .func (PySem.W.fnOf "listed_cells" "Instance.listed_cells" (defArgs s_i_listed_cells) (defBody s_i_listed_cells) (defScope s_i_listed_cells) .none kV_i_listed_cells dc_i_listed_cells pm_i_listed_cells an_i_listed_cells cd_i_listed_cells ct_i_listed_cells), sl_i_listed_cells⟩)
    (cdi_listed_cells : PySem.W.codeIn K cd_i_listed_cells "Instance.listed_cells" = true)
    (kp_i_listed_cells : PySem.W.keepIn K (.ref x_i_listed_cells) = true)
    (a_i_have_cells : PySem.W.findIn K (.ref CI) "have_cells" = some (some (.ref x_i_have_cells)))
    (i_i_have_cells : PySem.W.isFn K (.ref x_i_have_cells) = true)
    (l_i_have_cells : K.lookup x_i_have_cells = some ⟨oc_i_have_cells, od_i_have_cells, .func (PySem.W.fnOf "have_cells" "Instance.have_cells" (defArgs s_i_have_cells) (defBody s_i_have_cells) (defScope s_i_have_cells) .none kV_i_have_cells dc_i_have_cells pm_i_have_cells an_i_have_cells cd_i_have_cells ct_i_have_cells), sl_i_have_cells⟩)
    (cdi_have_cells : PySem.W.codeIn K cd_i_have_cells "Instance.have_cells" = true)
    (kp_i_have_cells : PySem.W.keepIn K (.ref x_i_have_cells) = true)
    (a_i_route_for : PySem.W.findIn K (.ref CI) "route_for" = some (some (.ref x_i_route_for)))
    (i_i_route_for : PySem.W.isFn K (.ref x_i_route_for) = true)
    (l_i_route_for : K.lookup x_i_route_for = some ⟨oc_i_route_for, od_i_route_for, .func (PySem.W.fnOf "route_for" "Instance.route_for" (defArgs s_i_route_for) (defBody s_i_route_for) (defScope s_i_route_for) .none kV_i_route_for dc_i_route_for pm_i_route_for an_i_route_for cd_i_route_for ct_i_route_for), sl_i_route_for⟩)
    (cdi_route_for : PySem.W.codeIn K cd_i_route_for "Instance.route_for" = true)
    (kp_i_route_for : PySem.W.keepIn K (.ref x_i_route_for) = true)
    (a_i_safe_route : PySem.W.findIn K (.ref CI) "safe_route" = some (some (.ref x_i_safe_route)))
    (i_i_safe_route : PySem.W.isFn K (.ref x_i_safe_route) = true)
    (l_i_safe_route : K.lookup x_i_safe_route = some ⟨oc_i_safe_route, od_i_safe_route, .func (PySem.W.fnOf "safe_route" "Instance.safe_route" (defArgs s_i_safe_route) (defBody s_i_safe_route) (defScope s_i_safe_route) .none kV_i_safe_route dc_i_safe_route pm_i_safe_route an_i_safe_route cd_i_safe_route ct_i_safe_route), sl_i_safe_route⟩)
    (cdi_safe_route : PySem.W.codeIn K cd_i_safe_route "Instance.safe_route" = true)
    (kp_i_safe_route : PySem.W.keepIn K (.ref x_i_safe_route) = true)
    (a_i_safe_route_length : PySem.W.findIn K (.ref CI) "safe_route_length" = some (some (.ref x_i_safe_route_length)))
    (i_i_safe_route_length : PySem.W.isFn K (.ref x_i_safe_route_length) = true)
    (l_i_safe_route_length : K.lookup x_i_safe_route_length = some ⟨oc_i_safe_route_length, od_i_safe_route_length, .func (PySem.W.fnOf "safe_route_length" "Instance.safe_route_length" (defArgs s_i_safe_route_length) (defBody s_i_safe_route_length) (defScope s_i_safe_route_length) .none kV_i_safe_route_length dc_i_safe_route_length pm_i_safe_route_length an_i_safe_route_length cd_i_safe_route_length ct_i_safe_route_length), sl_i_safe_route_length⟩)
    (cdi_safe_route_length : PySem.W.codeIn K cd_i_safe_route_length "Instance.safe_route_length" = true)
    (kp_i_safe_route_length : PySem.W.keepIn K (.ref x_i_safe_route_length) = true)
    (a_i_max_safe_thickness : PySem.W.findIn K (.ref CI) "max_safe_thickness" = some (some (.ref x_i_max_safe_thickness)))
    (i_i_max_safe_thickness : PySem.W.isFn K (.ref x_i_max_safe_thickness) = true)
    (l_i_max_safe_thickness : K.lookup x_i_max_safe_thickness = some ⟨oc_i_max_safe_thickness, od_i_max_safe_thickness, .func (PySem.W.fnOf "max_safe_thickness" "Instance.max_safe_thickness" (defArgs s_i_max_safe_thickness) (defBody s_i_max_safe_thickness) (defScope s_i_max_safe_thickness) .none kV_i_max_safe_thickness dc_i_max_safe_thickness pm_i_max_safe_thickness an_i_max_safe_thickness cd_i_max_safe_thickness ct_i_max_safe_thickness), sl_i_max_safe_thickness⟩)
    (cdi_max_safe_thickness : PySem.W.codeIn K cd_i_max_safe_thickness "Instance.max_safe_thickness" = true)
    (kp_i_max_safe_thickness : PySem.W.keepIn K (.ref x_i_max_safe_thickness) = true)
    (a_i_total_with : PySem.W.findIn K (.ref CI) "total_with" = some (some (.ref x_i_total_with)))
    (i_i_total_with : PySem.W.isFn K (.ref x_i_total_with) = true)
    (l_i_total_with : K.lookup x_i_total_with = some ⟨oc_i_total_with, od_i_total_with, .func (PySem.W.fnOf "total_with" "Instance.total_with" (defArgs s_i_total_with) (defBody s_i_total_with) (defScope s_i_total_with) .none kV_i_total_with dc_i_total_with pm_i_total_with an_i_total_with cd_i_total_with ct_i_total_with), sl_i_total_with⟩)
    (cdi_total_with : PySem.W.codeIn K cd_i_total_with "Instance.total_with" = true)
    (kp_i_total_with : PySem.W.keepIn K (.ref x_i_total_with) = true)
    (a_i_total_uncertainty_with : PySem.W.findIn K (.ref CI) "total_uncertainty_with" = some (some (.ref x_i_total_uncertainty_with)))
    (i_i_total_uncertainty_with : PySem.W.isFn K (.ref x_i_total_uncertainty_with) = true)
    (l_i_total_uncertainty_with : K.lookup x_i_total_uncertainty_with = some ⟨oc_i_total_uncertainty_with, od_i_total_uncertainty_with, .func (PySem.W.fnOf "total_uncertainty_with" "Instance.total_uncertainty_with" (defArgs s_i_total_uncertainty_with) (defBody s_i_total_uncertainty_with) (defScope s_i_total_uncertainty_with) .none kV_i_total_uncertainty_with dc_i_total_uncertainty_with pm_i_total_uncertainty_with an_i_total_uncertainty_with cd_i_total_uncertainty_with ct_i_total_uncertainty_with), sl_i_total_uncertainty_with⟩)
    (cdi_total_uncertainty_with : PySem.W.codeIn K cd_i_total_uncertainty_with "Instance.total_uncertainty_with" = true)
    (kp_i_total_uncertainty_with : PySem.W.keepIn K (.ref x_i_total_uncertainty_with) = true)
    (a_i_worst_total_uncertainty : PySem.W.findIn K (.ref CI) "worst_total_uncertainty" = some (some (.ref x_i_worst_total_uncertainty)))
    (i_i_worst_total_uncertainty : PySem.W.isFn K (.ref x_i_worst_total_uncertainty) = true)
    (l_i_worst_total_uncertainty : K.lookup x_i_worst_total_uncertainty = some ⟨oc_i_worst_total_uncertainty, od_i_worst_total_uncertainty, .func (PySem.W.fnOf "worst_total_uncertainty" "Instance.worst_total_uncertainty" (defArgs s_i_worst_total_uncertainty) (defBody s_i_worst_total_uncertainty) (defScope s_i_worst_total_uncertainty) .none kV_i_worst_total_uncertainty dc_i_worst_total_uncertainty pm_i_worst_total_uncertainty an_i_worst_total_uncertainty cd_i_worst_total_uncertainty ct_i_worst_total_uncertainty), sl_i_worst_total_uncertainty⟩)
    (cdi_worst_total_uncertainty : PySem.W.codeIn K cd_i_worst_total_uncertainty "Instance.worst_total_uncertainty" = true)
    (kp_i_worst_total_uncertainty : PySem.W.keepIn K (.ref x_i_worst_total_uncertainty) = true)
    (a_i_smallest_consistent_step : PySem.W.findIn K (.ref CI) "smallest_consistent_step" = some (some (.ref x_i_smallest_consistent_step)))
    (i_i_smallest_consistent_step : PySem.W.isFn K (.ref x_i_smallest_consistent_step) = true)
    (l_i_smallest_consistent_step : K.lookup x_i_smallest_consistent_step = some ⟨oc_i_smallest_consistent_step, od_i_smallest_consistent_step, .func (PySem.W.fnOf "smallest_consistent_step" "Instance.smallest_consistent_step" (defArgs s_i_smallest_consistent_step) (defBody s_i_smallest_consistent_step) (defScope s_i_smallest_consistent_step) .none kV_i_smallest_consistent_step dc_i_smallest_consistent_step pm_i_smallest_consistent_step an_i_smallest_consistent_step cd_i_smallest_consistent_step ct_i_smallest_consistent_step), sl_i_smallest_consistent_step⟩)
    (cdi_smallest_consistent_step : PySem.W.codeIn K cd_i_smallest_consistent_step "Instance.smallest_consistent_step" = true)
    (kp_i_smallest_consistent_step : PySem.W.keepIn K (.ref x_i_smallest_consistent_step) = true)
    (a_i_total_uncertainty : PySem.W.findIn K (.ref CI) "total_uncertainty" = some (some (.ref x_i_total_uncertainty)))
    (i_i_total_uncertainty : PySem.W.isFn K (.ref x_i_total_uncertainty) = true)
    (l_i_total_uncertainty : K.lookup x_i_total_uncertainty = some ⟨oc_i_total_uncertainty, od_i_total_uncertainty, .func (PySem.W.fnOf "total_uncertainty" "Instance.total_uncertainty" (defArgs s_i_total_uncertainty) (defBody s_i_total_uncertainty) (defScope s_i_total_uncertainty) .none kV_i_total_uncertainty dc_i_total_uncertainty pm_i_total_uncertainty an_i_total_uncertainty cd_i_total_uncertainty ct_i_total_uncertainty), sl_i_total_uncertainty⟩)
    (cdi_total_uncertainty : PySem.W.codeIn K cd_i_total_uncertainty "Instance.total_uncertainty" = true)
    (kp_i_total_uncertainty : PySem.W.keepIn K (.ref x_i_total_uncertainty) = true)
    (a_i_summary : PySem.W.findIn K (.ref CI) "summary" = some (some (.ref x_i_summary)))
    (i_i_summary : PySem.W.isFn K (.ref x_i_summary) = true)
    (l_i_summary : K.lookup x_i_summary = some ⟨oc_i_summary, od_i_summary, .func (PySem.W.fnOf "summary" "Instance.summary" (defArgs s_i_summary) (defBody s_i_summary) (defScope s_i_summary) .none kV_i_summary dc_i_summary pm_i_summary an_i_summary cd_i_summary ct_i_summary), sl_i_summary⟩)
    (cdi_summary : PySem.W.codeIn K cd_i_summary "Instance.summary" = true)
    (kp_i_summary : PySem.W.keepIn K (.ref x_i_summary) = true)
    (a_is_size : PySem.W.nsIn K mainGlobals "is_size" = some (some (.ref x_is_size)))
    (l_is_size : K.lookup x_is_size = some ⟨oc_is_size, od_is_size, .func (PySem.W.fnOf "is_size" "is_size" (defArgs s_is_size) (defBody s_is_size) (defScope s_is_size) .none kV_is_size dc_is_size pm_is_size an_is_size cd_is_size ct_is_size), sl_is_size⟩)
    (cdis_size : PySem.W.codeIn K cd_is_size "is_size" = true)
    (kp_is_size : PySem.W.keepIn K (.ref x_is_size) = true)
    (a_one_cell : PySem.W.nsIn K mainGlobals "one_cell" = some (some (.ref x_one_cell)))
    (l_one_cell : K.lookup x_one_cell = some ⟨oc_one_cell, od_one_cell, .func (PySem.W.fnOf "one_cell" "one_cell" (defArgs s_one_cell) (defBody s_one_cell) (defScope s_one_cell) .none kV_one_cell dc_one_cell pm_one_cell an_one_cell cd_one_cell ct_one_cell), sl_one_cell⟩)
    (cdone_cell : PySem.W.codeIn K cd_one_cell "one_cell" = true)
    (kp_one_cell : PySem.W.keepIn K (.ref x_one_cell) = true)
    (a_change : PySem.W.nsIn K mainGlobals "change" = some (some (.ref x_change)))
    (l_change : K.lookup x_change = some ⟨oc_change, od_change, .func (PySem.W.fnOf "change" "change" (defArgs s_change) (defBody s_change) (defScope s_change) .none kV_change dc_change pm_change an_change cd_change ct_change), sl_change⟩)
    (cdchange : PySem.W.codeIn K cd_change "change" = true)
    (kp_change : PySem.W.keepIn K (.ref x_change) = true)
    (a_bounds : PySem.W.nsIn K mainGlobals "bounds" = some (some (.ref x_bounds)))
    (l_bounds : K.lookup x_bounds = some ⟨oc_bounds, od_bounds, .func (PySem.W.fnOf "bounds" "bounds" (defArgs s_bounds) (defBody s_bounds) (defScope s_bounds) .none kV_bounds dc_bounds pm_bounds an_bounds cd_bounds ct_bounds), sl_bounds⟩)
    (cdbounds : PySem.W.codeIn K cd_bounds "bounds" = true)
    (kp_bounds : PySem.W.keepIn K (.ref x_bounds) = true)
    (a_safety : PySem.W.nsIn K mainGlobals "safety" = some (some (.ref x_safety)))
    (l_safety : K.lookup x_safety = some ⟨oc_safety, od_safety, .func (PySem.W.fnOf "safety" "safety" (defArgs s_safety) (defBody s_safety) (defScope s_safety) .none kV_safety dc_safety pm_safety an_safety cd_safety ct_safety), sl_safety⟩)
    (cdsafety : PySem.W.codeIn K cd_safety "safety" = true)
    (kp_safety : PySem.W.keepIn K (.ref x_safety) = true)
    (a_totals : PySem.W.nsIn K mainGlobals "totals" = some (some (.ref x_totals)))
    (l_totals : K.lookup x_totals = some ⟨oc_totals, od_totals, .func (PySem.W.fnOf "totals" "totals" (defArgs s_totals) (defBody s_totals) (defScope s_totals) .none kV_totals dc_totals pm_totals an_totals cd_totals ct_totals), sl_totals⟩)
    (cdtotals : PySem.W.codeIn K cd_totals "totals" = true)
    (kp_totals : PySem.W.keepIn K (.ref x_totals) = true)
    (a_f_init : PySem.W.findIn K (.ref CF) "__init__" = some (some (.ref x_f_init)))
    (i_f_init : PySem.W.isFn K (.ref x_f_init) = true)
    (l_f_init : K.lookup x_f_init = some ⟨oc_f_init, od_f_init, .func (PySem.W.fnOf "__init__" "Field.__init__" (defArgs s_f_init) (defBody s_f_init) (defScope s_f_init) .none kV_f_init dc_f_init pm_f_init an_f_init cd_f_init ct_f_init), sl_f_init⟩)
    (cdf_init : PySem.W.codeIn K cd_f_init "Field.__init__" = true)
    (kp_f_init : PySem.W.keepIn K (.ref x_f_init) = true)
    (a_f_create : PySem.W.findIn K (.ref CF) "create" = some (some (.ref x_f_create)))
    (i_f_create : PySem.W.isFn K (.ref x_f_create) = true)
    (l_f_create : K.lookup x_f_create = some ⟨oc_f_create, od_f_create, .func (PySem.W.fnOf "create" "Field.create" (defArgs s_f_create) (defBody s_f_create) (defScope s_f_create) .none kV_f_create dc_f_create pm_f_create an_f_create cd_f_create ct_f_create), sl_f_create⟩)
    (cdf_create : PySem.W.codeIn K cd_f_create "Field.create" = true)
    (kp_f_create : PySem.W.keepIn K (.ref x_f_create) = true)
    (a_f_answer : PySem.W.findIn K (.ref CF) "answer" = some (some (.ref x_f_answer)))
    (i_f_answer : PySem.W.isFn K (.ref x_f_answer) = true)
    (l_f_answer : K.lookup x_f_answer = some ⟨oc_f_answer, od_f_answer, .func (PySem.W.fnOf "answer" "Field.answer" (defArgs s_f_answer) (defBody s_f_answer) (defScope s_f_answer) .none kV_f_answer dc_f_answer pm_f_answer an_f_answer cd_f_answer ct_f_answer), sl_f_answer⟩)
    (cdf_answer : PySem.W.codeIn K cd_f_answer "Field.answer" = true)
    (kp_f_answer : PySem.W.keepIn K (.ref x_f_answer) = true)
    (a_answers : PySem.W.nsIn K mainGlobals "answers" = some (some (.ref x_answers)))
    (l_answers : K.lookup x_answers = some ⟨oc_answers, od_answers, .func (PySem.W.fnOf "answers" "answers" (defArgs s_answers) (defBody s_answers) (defScope s_answers) .none kV_answers dc_answers pm_answers an_answers cd_answers ct_answers), sl_answers⟩)
    (cdanswers : PySem.W.codeIn K cd_answers "answers" = true)
    (kp_answers : PySem.W.keepIn K (.ref x_answers) = true) :
    ∃ fd : FuncData, (∀ (s : Shared) (us : List Value), us.length = (["calls"] : List Str).length → BindsTo s fd ⟨us, []⟩ ((["calls"] : List Str).zip us)) ∧ ∀ base : Heap, K.In base → base.Ns mainGlobals mg → FnOk P w K mg base CX0 12 fa fd ["calls"] (sp_answers K) := by
  have e : fa = x_answers := by
    have e := hfa.symm.trans (PySem.W.mg_of X G a_answers)
    injection e with e
    injection e
  have F_is_consistent := fun_mk (st := s_is_consistent) l_is_consistent cdis_consistent kp_is_consistent
  have F_is_consistent_with := fun_mk (st := s_is_consistent_with) l_is_consistent_with cdis_consistent_with kp_is_consistent_with
  have F_are_consistent := fun_mk (st := s_are_consistent) l_are_consistent cdare_consistent kp_are_consistent
  have F_lower_at := fun_mk (st := s_lower_at) l_lower_at cdlower_at kp_lower_at
  have F_upper_at := fun_mk (st := s_upper_at) l_upper_at cdupper_at kp_upper_at
  have F_uncertainty_at := fun_mk (st := s_uncertainty_at) l_uncertainty_at cduncertainty_at kp_uncertainty_at
  have F_total_of := fun_mk (st := s_total_of) l_total_of cdtotal_of kp_total_of
  have F_without_cell := fun_mk (st := s_without_cell) l_without_cell cdwithout_cell kp_without_cell
  have F_step_between := fun_mk (st := s_step_between) l_step_between cdstep_between kp_step_between
  have F_smallest_step := fun_mk (st := s_smallest_step) l_smallest_step cdsmallest_step kp_smallest_step
  have F_g_init := fun_mk (st := s_g_init) l_g_init cdg_init kp_g_init
  have F_g_cell_count := fun_mk (st := s_g_cell_count) l_g_cell_count cdg_cell_count kp_g_cell_count
  have F_g_cells := fun_mk (st := s_g_cells) l_g_cells cdg_cells kp_g_cells
  have F_g_has_cell := fun_mk (st := s_g_has_cell) l_g_has_cell cdg_has_cell kp_g_has_cell
  have F_g_column_of := fun_mk (st := s_g_column_of) l_g_column_of cdg_column_of kp_g_column_of
  have F_g_row_of := fun_mk (st := s_g_row_of) l_g_row_of cdg_row_of kp_g_row_of
  have F_g_distance := fun_mk (st := s_g_distance) l_g_distance cdg_distance kp_g_distance
  have F_g_neighbours := fun_mk (st := s_g_neighbours) l_g_neighbours cdg_neighbours kp_g_neighbours
  have F_steps_from := fun_mk (st := s_steps_from) l_steps_from cdsteps_from kp_steps_from
  have F_is_beside := fun_mk (st := s_is_beside) l_is_beside cdis_beside kp_is_beside
  have F_cell_before := fun_mk (st := s_cell_before) l_cell_before cdcell_before kp_cell_before
  have F_route := fun_mk (st := s_route) l_route cdroute kp_route
  have F_counted := fun_mk (st := s_counted) l_counted cdcounted kp_counted
  have F_i_init := fun_mk (st := s_i_init) l_i_init cdi_init kp_i_init
  have F_i_set_max_step := fun_mk (st := s_i_set_max_step) l_i_set_max_step cdi_set_max_step kp_i_set_max_step
  have F_i_measure_error := fun_mk (st := s_i_measure_error) l_i_measure_error cdi_measure_error kp_i_measure_error
  have F_i_with_measurement := fun_mk (st := s_i_with_measurement) l_i_with_measurement cdi_with_measurement kp_i_with_measurement
  have F_i_measure := fun_mk (st := s_i_measure) l_i_measure cdi_measure kp_i_measure
  have F_i_is_measured := fun_mk (st := s_i_is_measured) l_i_is_measured cdi_is_measured kp_i_is_measured
  have F_i_remove_measurement := fun_mk (st := s_i_remove_measurement) l_i_remove_measurement cdi_remove_measurement kp_i_remove_measurement
  have F_i_list_measurements := fun_mk (st := s_i_list_measurements) l_i_list_measurements cdi_list_measurements kp_i_list_measurements
  have F_i_lower := fun_mk (st := s_i_lower) l_i_lower cdi_lower kp_i_lower
  have F_i_upper := fun_mk (st := s_i_upper) l_i_upper cdi_upper kp_i_upper
  have F_i_uncertainty := fun_mk (st := s_i_uncertainty) l_i_uncertainty cdi_uncertainty kp_i_uncertainty
  have F_i_lower_bounds := fun_mk (st := s_i_lower_bounds) l_i_lower_bounds cdi_lower_bounds kp_i_lower_bounds
  have F_i_upper_bounds := fun_mk (st := s_i_upper_bounds) l_i_upper_bounds cdi_upper_bounds kp_i_upper_bounds
  have F_i_is_possible := fun_mk (st := s_i_is_possible) l_i_is_possible cdi_is_possible kp_i_is_possible
  have F_i_most_uncertain_cell := fun_mk (st := s_i_most_uncertain_cell) l_i_most_uncertain_cell cdi_most_uncertain_cell kp_i_most_uncertain_cell
  have F_i_status_of := fun_mk (st := s_i_status_of) l_i_status_of cdi_status_of kp_i_status_of
  have F_i_check_cell := fun_mk (st := s_i_check_cell) l_i_check_cell cdi_check_cell kp_i_check_cell
  have F_i_cells_with := fun_mk (st := s_i_cells_with) l_i_cells_with cdi_cells_with kp_i_cells_with
  have F_i_listed_cells := fun_mk (st := s_i_listed_cells) l_i_listed_cells cdi_listed_cells kp_i_listed_cells
  have F_i_have_cells := fun_mk (st := s_i_have_cells) l_i_have_cells cdi_have_cells kp_i_have_cells
  have F_i_route_for := fun_mk (st := s_i_route_for) l_i_route_for cdi_route_for kp_i_route_for
  have F_i_safe_route := fun_mk (st := s_i_safe_route) l_i_safe_route cdi_safe_route kp_i_safe_route
  have F_i_safe_route_length := fun_mk (st := s_i_safe_route_length) l_i_safe_route_length cdi_safe_route_length kp_i_safe_route_length
  have F_i_max_safe_thickness := fun_mk (st := s_i_max_safe_thickness) l_i_max_safe_thickness cdi_max_safe_thickness kp_i_max_safe_thickness
  have F_i_total_with := fun_mk (st := s_i_total_with) l_i_total_with cdi_total_with kp_i_total_with
  have F_i_total_uncertainty_with := fun_mk (st := s_i_total_uncertainty_with) l_i_total_uncertainty_with cdi_total_uncertainty_with kp_i_total_uncertainty_with
  have F_i_worst_total_uncertainty := fun_mk (st := s_i_worst_total_uncertainty) l_i_worst_total_uncertainty cdi_worst_total_uncertainty kp_i_worst_total_uncertainty
  have F_i_smallest_consistent_step := fun_mk (st := s_i_smallest_consistent_step) l_i_smallest_consistent_step cdi_smallest_consistent_step kp_i_smallest_consistent_step
  have F_i_total_uncertainty := fun_mk (st := s_i_total_uncertainty) l_i_total_uncertainty cdi_total_uncertainty kp_i_total_uncertainty
  have F_i_summary := fun_mk (st := s_i_summary) l_i_summary cdi_summary kp_i_summary
  have F_is_size := fun_mk (st := s_is_size) l_is_size cdis_size kp_is_size
  have F_one_cell := fun_mk (st := s_one_cell) l_one_cell cdone_cell kp_one_cell
  have F_change := fun_mk (st := s_change) l_change cdchange kp_change
  have F_bounds := fun_mk (st := s_bounds) l_bounds cdbounds kp_bounds
  have F_safety := fun_mk (st := s_safety) l_safety cdsafety kp_safety
  have F_totals := fun_mk (st := s_totals) l_totals cdtotals kp_totals
  have F_f_init := fun_mk (st := s_f_init) l_f_init cdf_init kp_f_init
  have F_f_create := fun_mk (st := s_f_create) l_f_create cdf_create kp_f_create
  have F_f_answer := fun_mk (st := s_f_answer) l_f_answer cdf_answer kp_f_answer
  have F_answers := fun_mk (st := s_answers) l_answers cdanswers kp_answers
  have T : Txt K mg { c_Grid := CG, c_Instance := CI, c_Field := CF, is_consistent := ⟨x_is_consistent, PySem.W.fnOf "is_consistent" "is_consistent" (defArgs s_is_consistent) (defBody s_is_consistent) (defScope s_is_consistent) .none kV_is_consistent dc_is_consistent pm_is_consistent an_is_consistent cd_is_consistent ct_is_consistent⟩, is_consistent_with := ⟨x_is_consistent_with, PySem.W.fnOf "is_consistent_with" "is_consistent_with" (defArgs s_is_consistent_with) (defBody s_is_consistent_with) (defScope s_is_consistent_with) .none kV_is_consistent_with dc_is_consistent_with pm_is_consistent_with an_is_consistent_with cd_is_consistent_with ct_is_consistent_with⟩, are_consistent := ⟨x_are_consistent, PySem.W.fnOf "are_consistent" "are_consistent" (defArgs s_are_consistent) (defBody s_are_consistent) (defScope s_are_consistent) .none kV_are_consistent dc_are_consistent pm_are_consistent an_are_consistent cd_are_consistent ct_are_consistent⟩, lower_at := ⟨x_lower_at, PySem.W.fnOf "lower_at" "lower_at" (defArgs s_lower_at) (defBody s_lower_at) (defScope s_lower_at) .none kV_lower_at dc_lower_at pm_lower_at an_lower_at cd_lower_at ct_lower_at⟩, upper_at := ⟨x_upper_at, PySem.W.fnOf "upper_at" "upper_at" (defArgs s_upper_at) (defBody s_upper_at) (defScope s_upper_at) .none kV_upper_at dc_upper_at pm_upper_at an_upper_at cd_upper_at ct_upper_at⟩, uncertainty_at := ⟨x_uncertainty_at, PySem.W.fnOf "uncertainty_at" "uncertainty_at" (defArgs s_uncertainty_at) (defBody s_uncertainty_at) (defScope s_uncertainty_at) .none kV_uncertainty_at dc_uncertainty_at pm_uncertainty_at an_uncertainty_at cd_uncertainty_at ct_uncertainty_at⟩, total_of := ⟨x_total_of, PySem.W.fnOf "total_of" "total_of" (defArgs s_total_of) (defBody s_total_of) (defScope s_total_of) .none kV_total_of dc_total_of pm_total_of an_total_of cd_total_of ct_total_of⟩, without_cell := ⟨x_without_cell, PySem.W.fnOf "without_cell" "without_cell" (defArgs s_without_cell) (defBody s_without_cell) (defScope s_without_cell) .none kV_without_cell dc_without_cell pm_without_cell an_without_cell cd_without_cell ct_without_cell⟩, step_between := ⟨x_step_between, PySem.W.fnOf "step_between" "step_between" (defArgs s_step_between) (defBody s_step_between) (defScope s_step_between) .none kV_step_between dc_step_between pm_step_between an_step_between cd_step_between ct_step_between⟩, smallest_step := ⟨x_smallest_step, PySem.W.fnOf "smallest_step" "smallest_step" (defArgs s_smallest_step) (defBody s_smallest_step) (defScope s_smallest_step) .none kV_smallest_step dc_smallest_step pm_smallest_step an_smallest_step cd_smallest_step ct_smallest_step⟩, g_init := ⟨x_g_init, PySem.W.fnOf "__init__" "Grid.__init__" (defArgs s_g_init) (defBody s_g_init) (defScope s_g_init) .none kV_g_init dc_g_init pm_g_init an_g_init cd_g_init ct_g_init⟩, g_cell_count := ⟨x_g_cell_count, PySem.W.fnOf "cell_count" "Grid.cell_count" (defArgs s_g_cell_count) (defBody s_g_cell_count) (defScope s_g_cell_count) .none kV_g_cell_count dc_g_cell_count pm_g_cell_count an_g_cell_count cd_g_cell_count ct_g_cell_count⟩, g_cells := ⟨x_g_cells, PySem.W.fnOf "cells" "Grid.cells" (defArgs s_g_cells) (defBody s_g_cells) (defScope s_g_cells) .none kV_g_cells dc_g_cells pm_g_cells an_g_cells cd_g_cells ct_g_cells⟩, g_has_cell := ⟨x_g_has_cell, PySem.W.fnOf "has_cell" "Grid.has_cell" (defArgs s_g_has_cell) (defBody s_g_has_cell) (defScope s_g_has_cell) .none kV_g_has_cell dc_g_has_cell pm_g_has_cell an_g_has_cell cd_g_has_cell ct_g_has_cell⟩, g_column_of := ⟨x_g_column_of, PySem.W.fnOf "column_of" "Grid.column_of" (defArgs s_g_column_of) (defBody s_g_column_of) (defScope s_g_column_of) .none kV_g_column_of dc_g_column_of pm_g_column_of an_g_column_of cd_g_column_of ct_g_column_of⟩, g_row_of := ⟨x_g_row_of, PySem.W.fnOf "row_of" "Grid.row_of" (defArgs s_g_row_of) (defBody s_g_row_of) (defScope s_g_row_of) .none kV_g_row_of dc_g_row_of pm_g_row_of an_g_row_of cd_g_row_of ct_g_row_of⟩, g_distance := ⟨x_g_distance, PySem.W.fnOf "distance" "Grid.distance" (defArgs s_g_distance) (defBody s_g_distance) (defScope s_g_distance) .none kV_g_distance dc_g_distance pm_g_distance an_g_distance cd_g_distance ct_g_distance⟩, g_neighbours := ⟨x_g_neighbours, PySem.W.fnOf "neighbours" "Grid.neighbours" (defArgs s_g_neighbours) (defBody s_g_neighbours) (defScope s_g_neighbours) .none kV_g_neighbours dc_g_neighbours pm_g_neighbours an_g_neighbours cd_g_neighbours ct_g_neighbours⟩, steps_from := ⟨x_steps_from, PySem.W.fnOf "steps_from" "steps_from" (defArgs s_steps_from) (defBody s_steps_from) (defScope s_steps_from) .none kV_steps_from dc_steps_from pm_steps_from an_steps_from cd_steps_from ct_steps_from⟩, is_beside := ⟨x_is_beside, PySem.W.fnOf "is_beside" "is_beside" (defArgs s_is_beside) (defBody s_is_beside) (defScope s_is_beside) .none kV_is_beside dc_is_beside pm_is_beside an_is_beside cd_is_beside ct_is_beside⟩, cell_before := ⟨x_cell_before, PySem.W.fnOf "cell_before" "cell_before" (defArgs s_cell_before) (defBody s_cell_before) (defScope s_cell_before) .none kV_cell_before dc_cell_before pm_cell_before an_cell_before cd_cell_before ct_cell_before⟩, route := ⟨x_route, PySem.W.fnOf "route" "route" (defArgs s_route) (defBody s_route) (defScope s_route) .none kV_route dc_route pm_route an_route cd_route ct_route⟩, counted := ⟨x_counted, PySem.W.fnOf "counted" "counted" (defArgs s_counted) (defBody s_counted) (defScope s_counted) .none kV_counted dc_counted pm_counted an_counted cd_counted ct_counted⟩, i_init := ⟨x_i_init, PySem.W.fnOf "__init__" "Instance.__init__" (defArgs s_i_init) (defBody s_i_init) (defScope s_i_init) .none kV_i_init dc_i_init pm_i_init an_i_init cd_i_init ct_i_init⟩, i_set_max_step := ⟨x_i_set_max_step, PySem.W.fnOf "set_max_step" "Instance.set_max_step" (defArgs s_i_set_max_step) (defBody s_i_set_max_step) (defScope s_i_set_max_step) .none kV_i_set_max_step dc_i_set_max_step pm_i_set_max_step an_i_set_max_step cd_i_set_max_step ct_i_set_max_step⟩, i_measure_error := ⟨x_i_measure_error, PySem.W.fnOf "measure_error" "Instance.measure_error" (defArgs s_i_measure_error) (defBody s_i_measure_error) (defScope s_i_measure_error) .none kV_i_measure_error dc_i_measure_error pm_i_measure_error an_i_measure_error cd_i_measure_error ct_i_measure_error⟩, i_with_measurement := ⟨x_i_with_measurement, PySem.W.fnOf "with_measurement" "Instance.with_measurement" (defArgs s_i_with_measurement) (defBody s_i_with_measurement) (defScope s_i_with_measurement) .none kV_i_with_measurement dc_i_with_measurement pm_i_with_measurement an_i_with_measurement cd_i_with_measurement ct_i_with_measurement⟩, i_measure := ⟨x_i_measure, PySem.W.fnOf "measure" "Instance.measure" (defArgs s_i_measure) (defBody s_i_measure) (defScope s_i_measure) .none kV_i_measure dc_i_measure pm_i_measure an_i_measure cd_i_measure ct_i_measure⟩, i_is_measured := ⟨x_i_is_measured, PySem.W.fnOf "is_measured" "Instance.is_measured" (defArgs s_i_is_measured) (defBody s_i_is_measured) (defScope s_i_is_measured) .none kV_i_is_measured dc_i_is_measured pm_i_is_measured an_i_is_measured cd_i_is_measured ct_i_is_measured⟩, i_remove_measurement := ⟨x_i_remove_measurement, PySem.W.fnOf "remove_measurement" "Instance.remove_measurement" (defArgs s_i_remove_measurement) (defBody s_i_remove_measurement) (defScope s_i_remove_measurement) .none kV_i_remove_measurement dc_i_remove_measurement pm_i_remove_measurement an_i_remove_measurement cd_i_remove_measurement ct_i_remove_measurement⟩, i_list_measurements := ⟨x_i_list_measurements, PySem.W.fnOf "list_measurements" "Instance.list_measurements" (defArgs s_i_list_measurements) (defBody s_i_list_measurements) (defScope s_i_list_measurements) .none kV_i_list_measurements dc_i_list_measurements pm_i_list_measurements an_i_list_measurements cd_i_list_measurements ct_i_list_measurements⟩, i_lower := ⟨x_i_lower, PySem.W.fnOf "lower" "Instance.lower" (defArgs s_i_lower) (defBody s_i_lower) (defScope s_i_lower) .none kV_i_lower dc_i_lower pm_i_lower an_i_lower cd_i_lower ct_i_lower⟩, i_upper := ⟨x_i_upper, PySem.W.fnOf "upper" "Instance.upper" (defArgs s_i_upper) (defBody s_i_upper) (defScope s_i_upper) .none kV_i_upper dc_i_upper pm_i_upper an_i_upper cd_i_upper ct_i_upper⟩, i_uncertainty := ⟨x_i_uncertainty, PySem.W.fnOf "uncertainty" "Instance.uncertainty" (defArgs s_i_uncertainty) (defBody s_i_uncertainty) (defScope s_i_uncertainty) .none kV_i_uncertainty dc_i_uncertainty pm_i_uncertainty an_i_uncertainty cd_i_uncertainty ct_i_uncertainty⟩, i_lower_bounds := ⟨x_i_lower_bounds, PySem.W.fnOf "lower_bounds" "Instance.lower_bounds" (defArgs s_i_lower_bounds) (defBody s_i_lower_bounds) (defScope s_i_lower_bounds) .none kV_i_lower_bounds dc_i_lower_bounds pm_i_lower_bounds an_i_lower_bounds cd_i_lower_bounds ct_i_lower_bounds⟩, i_upper_bounds := ⟨x_i_upper_bounds, PySem.W.fnOf "upper_bounds" "Instance.upper_bounds" (defArgs s_i_upper_bounds) (defBody s_i_upper_bounds) (defScope s_i_upper_bounds) .none kV_i_upper_bounds dc_i_upper_bounds pm_i_upper_bounds an_i_upper_bounds cd_i_upper_bounds ct_i_upper_bounds⟩, i_is_possible := ⟨x_i_is_possible, PySem.W.fnOf "is_possible" "Instance.is_possible" (defArgs s_i_is_possible) (defBody s_i_is_possible) (defScope s_i_is_possible) .none kV_i_is_possible dc_i_is_possible pm_i_is_possible an_i_is_possible cd_i_is_possible ct_i_is_possible⟩, i_most_uncertain_cell := ⟨x_i_most_uncertain_cell, PySem.W.fnOf "most_uncertain_cell" "Instance.most_uncertain_cell" (defArgs s_i_most_uncertain_cell) (defBody s_i_most_uncertain_cell) (defScope s_i_most_uncertain_cell) .none kV_i_most_uncertain_cell dc_i_most_uncertain_cell pm_i_most_uncertain_cell an_i_most_uncertain_cell cd_i_most_uncertain_cell ct_i_most_uncertain_cell⟩, i_status_of := ⟨x_i_status_of, PySem.W.fnOf "status_of" "Instance.status_of" (defArgs s_i_status_of) (defBody s_i_status_of) (defScope s_i_status_of) .none kV_i_status_of dc_i_status_of pm_i_status_of an_i_status_of cd_i_status_of ct_i_status_of⟩, i_check_cell := ⟨x_i_check_cell, PySem.W.fnOf "check_cell" "Instance.check_cell" (defArgs s_i_check_cell) (defBody s_i_check_cell) (defScope s_i_check_cell) .none kV_i_check_cell dc_i_check_cell pm_i_check_cell an_i_check_cell cd_i_check_cell ct_i_check_cell⟩, i_cells_with := ⟨x_i_cells_with, PySem.W.fnOf "cells_with" "Instance.cells_with" (defArgs s_i_cells_with) (defBody s_i_cells_with) (defScope s_i_cells_with) .none kV_i_cells_with dc_i_cells_with pm_i_cells_with an_i_cells_with cd_i_cells_with ct_i_cells_with⟩, i_listed_cells := ⟨x_i_listed_cells, PySem.W.fnOf "listed_cells" "Instance.listed_cells" (defArgs s_i_listed_cells) (defBody s_i_listed_cells) (defScope s_i_listed_cells) .none kV_i_listed_cells dc_i_listed_cells pm_i_listed_cells an_i_listed_cells cd_i_listed_cells ct_i_listed_cells⟩, i_have_cells := ⟨x_i_have_cells, PySem.W.fnOf "have_cells" "Instance.have_cells" (defArgs s_i_have_cells) (defBody s_i_have_cells) (defScope s_i_have_cells) .none kV_i_have_cells dc_i_have_cells pm_i_have_cells an_i_have_cells cd_i_have_cells ct_i_have_cells⟩, i_route_for := ⟨x_i_route_for, PySem.W.fnOf "route_for" "Instance.route_for" (defArgs s_i_route_for) (defBody s_i_route_for) (defScope s_i_route_for) .none kV_i_route_for dc_i_route_for pm_i_route_for an_i_route_for cd_i_route_for ct_i_route_for⟩, i_safe_route := ⟨x_i_safe_route, PySem.W.fnOf "safe_route" "Instance.safe_route" (defArgs s_i_safe_route) (defBody s_i_safe_route) (defScope s_i_safe_route) .none kV_i_safe_route dc_i_safe_route pm_i_safe_route an_i_safe_route cd_i_safe_route ct_i_safe_route⟩, i_safe_route_length := ⟨x_i_safe_route_length, PySem.W.fnOf "safe_route_length" "Instance.safe_route_length" (defArgs s_i_safe_route_length) (defBody s_i_safe_route_length) (defScope s_i_safe_route_length) .none kV_i_safe_route_length dc_i_safe_route_length pm_i_safe_route_length an_i_safe_route_length cd_i_safe_route_length ct_i_safe_route_length⟩, i_max_safe_thickness := ⟨x_i_max_safe_thickness, PySem.W.fnOf "max_safe_thickness" "Instance.max_safe_thickness" (defArgs s_i_max_safe_thickness) (defBody s_i_max_safe_thickness) (defScope s_i_max_safe_thickness) .none kV_i_max_safe_thickness dc_i_max_safe_thickness pm_i_max_safe_thickness an_i_max_safe_thickness cd_i_max_safe_thickness ct_i_max_safe_thickness⟩, i_total_with := ⟨x_i_total_with, PySem.W.fnOf "total_with" "Instance.total_with" (defArgs s_i_total_with) (defBody s_i_total_with) (defScope s_i_total_with) .none kV_i_total_with dc_i_total_with pm_i_total_with an_i_total_with cd_i_total_with ct_i_total_with⟩, i_total_uncertainty_with := ⟨x_i_total_uncertainty_with, PySem.W.fnOf "total_uncertainty_with" "Instance.total_uncertainty_with" (defArgs s_i_total_uncertainty_with) (defBody s_i_total_uncertainty_with) (defScope s_i_total_uncertainty_with) .none kV_i_total_uncertainty_with dc_i_total_uncertainty_with pm_i_total_uncertainty_with an_i_total_uncertainty_with cd_i_total_uncertainty_with ct_i_total_uncertainty_with⟩, i_worst_total_uncertainty := ⟨x_i_worst_total_uncertainty, PySem.W.fnOf "worst_total_uncertainty" "Instance.worst_total_uncertainty" (defArgs s_i_worst_total_uncertainty) (defBody s_i_worst_total_uncertainty) (defScope s_i_worst_total_uncertainty) .none kV_i_worst_total_uncertainty dc_i_worst_total_uncertainty pm_i_worst_total_uncertainty an_i_worst_total_uncertainty cd_i_worst_total_uncertainty ct_i_worst_total_uncertainty⟩, i_smallest_consistent_step := ⟨x_i_smallest_consistent_step, PySem.W.fnOf "smallest_consistent_step" "Instance.smallest_consistent_step" (defArgs s_i_smallest_consistent_step) (defBody s_i_smallest_consistent_step) (defScope s_i_smallest_consistent_step) .none kV_i_smallest_consistent_step dc_i_smallest_consistent_step pm_i_smallest_consistent_step an_i_smallest_consistent_step cd_i_smallest_consistent_step ct_i_smallest_consistent_step⟩, i_total_uncertainty := ⟨x_i_total_uncertainty, PySem.W.fnOf "total_uncertainty" "Instance.total_uncertainty" (defArgs s_i_total_uncertainty) (defBody s_i_total_uncertainty) (defScope s_i_total_uncertainty) .none kV_i_total_uncertainty dc_i_total_uncertainty pm_i_total_uncertainty an_i_total_uncertainty cd_i_total_uncertainty ct_i_total_uncertainty⟩, i_summary := ⟨x_i_summary, PySem.W.fnOf "summary" "Instance.summary" (defArgs s_i_summary) (defBody s_i_summary) (defScope s_i_summary) .none kV_i_summary dc_i_summary pm_i_summary an_i_summary cd_i_summary ct_i_summary⟩, is_size := ⟨x_is_size, PySem.W.fnOf "is_size" "is_size" (defArgs s_is_size) (defBody s_is_size) (defScope s_is_size) .none kV_is_size dc_is_size pm_is_size an_is_size cd_is_size ct_is_size⟩, one_cell := ⟨x_one_cell, PySem.W.fnOf "one_cell" "one_cell" (defArgs s_one_cell) (defBody s_one_cell) (defScope s_one_cell) .none kV_one_cell dc_one_cell pm_one_cell an_one_cell cd_one_cell ct_one_cell⟩, change := ⟨x_change, PySem.W.fnOf "change" "change" (defArgs s_change) (defBody s_change) (defScope s_change) .none kV_change dc_change pm_change an_change cd_change ct_change⟩, bounds := ⟨x_bounds, PySem.W.fnOf "bounds" "bounds" (defArgs s_bounds) (defBody s_bounds) (defScope s_bounds) .none kV_bounds dc_bounds pm_bounds an_bounds cd_bounds ct_bounds⟩, safety := ⟨x_safety, PySem.W.fnOf "safety" "safety" (defArgs s_safety) (defBody s_safety) (defScope s_safety) .none kV_safety dc_safety pm_safety an_safety cd_safety ct_safety⟩, totals := ⟨x_totals, PySem.W.fnOf "totals" "totals" (defArgs s_totals) (defBody s_totals) (defScope s_totals) .none kV_totals dc_totals pm_totals an_totals cd_totals ct_totals⟩, f_init := ⟨x_f_init, PySem.W.fnOf "__init__" "Field.__init__" (defArgs s_f_init) (defBody s_f_init) (defScope s_f_init) .none kV_f_init dc_f_init pm_f_init an_f_init cd_f_init ct_f_init⟩, f_create := ⟨x_f_create, PySem.W.fnOf "create" "Field.create" (defArgs s_f_create) (defBody s_f_create) (defScope s_f_create) .none kV_f_create dc_f_create pm_f_create an_f_create cd_f_create ct_f_create⟩, f_answer := ⟨x_f_answer, PySem.W.fnOf "answer" "Field.answer" (defArgs s_f_answer) (defBody s_f_answer) (defScope s_f_answer) .none kV_f_answer dc_f_answer pm_f_answer an_f_answer cd_f_answer ct_f_answer⟩, answers := ⟨x_answers, PySem.W.fnOf "answers" "answers" (defArgs s_answers) (defBody s_answers) (defScope s_answers) .none kV_answers dc_answers pm_answers an_answers cd_answers ct_answers⟩ } :=
    { cl_Grid := ⟨pgG, hdG, poG, saG⟩,
      mk_Grid := ⟨mkG, a_g_init, i_g_init, kcG⟩,
      g_Grid := PySem.W.mg_of X G aCG,
      n_Grid_columns := nfG_columns,
      n_Grid_rows := nfG_rows,
      cl_Instance := ⟨pgI, hdI, poI, saI⟩,
      mk_Instance := ⟨mkI, a_i_init, i_i_init, kcI⟩,
      g_Instance := PySem.W.mg_of X G aCI,
      n_Instance_grid := nfI_grid,
      n_Instance_step := nfI_step,
      n_Instance_measurements := nfI_measurements,
      cl_Field := ⟨pgF, hdF, poF, saF⟩,
      mk_Field := ⟨mkF, a_f_init, i_f_init, kcF⟩,
      g_Field := PySem.W.mg_of X G aCF,
      n_Field_instance := nfF_instance,
      n_abs := PySem.W.mg_none_of X G z_abs,
      n_max := PySem.W.mg_none_of X G z_max,
      n_min := PySem.W.mg_none_of X G z_min,
      n_sum := PySem.W.mg_none_of X G z_sum,
      n_all := PySem.W.mg_none_of X G z_all,
      n_any := PySem.W.mg_none_of X G z_any,
      n_len := PySem.W.mg_none_of X G z_len,
      n_list := PySem.W.mg_none_of X G z_list,
      n_range := PySem.W.mg_none_of X G z_range,
      n_int := PySem.W.mg_none_of X G z_int,
      k_MOST_THICKNESS := ⟨_, PySem.W.mg_of X G c_MOST_THICKNESS, _, rfl⟩,
      k_NO_CELL := ⟨_, PySem.W.mg_of X G c_NO_CELL, _, rfl⟩,
      k_MEASURED := ⟨_, PySem.W.mg_of X G c_MEASURED, _, rfl⟩,
      k_OUTSIDE := ⟨_, PySem.W.mg_of X G c_OUTSIDE, _, rfl⟩,
      k_NOT_POSSIBLE := ⟨_, PySem.W.mg_of X G c_NOT_POSSIBLE, _, rfl⟩,
      k_MOST_STEP := ⟨_, PySem.W.mg_of X G c_MOST_STEP, _, rfl⟩,
      k_SAFE := ⟨_, PySem.W.mg_of X G c_SAFE, _, rfl⟩,
      k_UNCERTAIN := ⟨_, PySem.W.mg_of X G c_UNCERTAIN, _, rfl⟩,
      k_NO_INSTANCE := ⟨_, PySem.W.mg_of X G c_NO_INSTANCE, _, rfl⟩,
      k_MOST_SIDE := ⟨_, PySem.W.mg_of X G c_MOST_SIDE, _, rfl⟩,
      k_CREATE := ⟨_, PySem.W.mg_of X G c_CREATE, _, rfl⟩,
      k_NUMBERS := ⟨pN, ⟨_, PySem.W.mg_of X G c_NUMBERS, rfl⟩, fun _ => .inr ⟨_, _, _, cl_NUMBERS, rfl, rfl, (by show 23 ≤ sizeLine; decide), .cons ⟨_, rfl⟩ (.cons ⟨_, rfl⟩ (.cons ⟨_, rfl⟩ (.cons ⟨_, rfl⟩ (.cons ⟨_, rfl⟩ (.cons ⟨_, rfl⟩ (.cons ⟨_, rfl⟩ (.cons ⟨_, rfl⟩ (.cons ⟨_, rfl⟩ (.cons ⟨_, rfl⟩ (.cons ⟨_, rfl⟩ (.cons ⟨_, rfl⟩ (.cons ⟨_, rfl⟩ (.cons ⟨_, rfl⟩ (.cons ⟨_, rfl⟩ (.cons ⟨_, rfl⟩ (.cons ⟨_, rfl⟩ (.cons ⟨_, rfl⟩ (.cons ⟨_, rfl⟩ (.cons ⟨_, rfl⟩ (.cons ⟨_, rfl⟩ (.cons ⟨_, rfl⟩ (.cons ⟨_, rfl⟩ (.nil)))))))))))))))))))))))⟩⟩,
      f_is_consistent := F_is_consistent,
      b_is_consistent := F_is_consistent.binds (ps := ["grid", "step", "one", "other"]) fun _ _ _ _ _ _ us hl => match us, hl with | [_, _, _, _], _ => rfl,
      g_is_consistent := PySem.W.mg_of X G a_is_consistent,
      f_is_consistent_with := F_is_consistent_with,
      b_is_consistent_with := F_is_consistent_with.binds (ps := ["grid", "step", "measurement", "measurements"]) fun _ _ _ _ _ _ us hl => match us, hl with | [_, _, _, _], _ => rfl,
      g_is_consistent_with := PySem.W.mg_of X G a_is_consistent_with,
      f_are_consistent := F_are_consistent,
      b_are_consistent := F_are_consistent.binds (ps := ["grid", "step", "measurements"]) fun _ _ _ _ _ _ us hl => match us, hl with | [_, _, _], _ => rfl,
      g_are_consistent := PySem.W.mg_of X G a_are_consistent,
      f_lower_at := F_lower_at,
      b_lower_at := F_lower_at.binds (ps := ["grid", "step", "measurements", "cell"]) fun _ _ _ _ _ _ us hl => match us, hl with | [_, _, _, _], _ => rfl,
      g_lower_at := PySem.W.mg_of X G a_lower_at,
      f_upper_at := F_upper_at,
      b_upper_at := F_upper_at.binds (ps := ["grid", "step", "measurements", "cell"]) fun _ _ _ _ _ _ us hl => match us, hl with | [_, _, _, _], _ => rfl,
      g_upper_at := PySem.W.mg_of X G a_upper_at,
      f_uncertainty_at := F_uncertainty_at,
      b_uncertainty_at := F_uncertainty_at.binds (ps := ["grid", "step", "measurements", "cell"]) fun _ _ _ _ _ _ us hl => match us, hl with | [_, _, _, _], _ => rfl,
      g_uncertainty_at := PySem.W.mg_of X G a_uncertainty_at,
      f_total_of := F_total_of,
      b_total_of := F_total_of.binds (ps := ["grid", "step", "measurements"]) fun _ _ _ _ _ _ us hl => match us, hl with | [_, _, _], _ => rfl,
      g_total_of := PySem.W.mg_of X G a_total_of,
      f_without_cell := F_without_cell,
      b_without_cell := F_without_cell.binds (ps := ["measurements", "cell"]) fun _ _ _ _ _ _ us hl => match us, hl with | [_, _], _ => rfl,
      g_without_cell := PySem.W.mg_of X G a_without_cell,
      f_step_between := F_step_between,
      b_step_between := F_step_between.binds (ps := ["grid", "one", "other"]) fun _ _ _ _ _ _ us hl => match us, hl with | [_, _, _], _ => rfl,
      g_step_between := PySem.W.mg_of X G a_step_between,
      f_smallest_step := F_smallest_step,
      b_smallest_step := F_smallest_step.binds (ps := ["grid", "measurements"]) fun _ _ _ _ _ _ us hl => match us, hl with | [_, _], _ => rfl,
      g_smallest_step := PySem.W.mg_of X G a_smallest_step,
      f_g_init := F_g_init,
      b_g_init := F_g_init.binds (ps := ["self", "columns", "rows"]) fun _ _ _ _ _ _ us hl => match us, hl with | [_, _, _], _ => rfl,
      f_g_cell_count := F_g_cell_count,
      b_g_cell_count := F_g_cell_count.binds (ps := ["self"]) fun _ _ _ _ _ _ us hl => match us, hl with | [_], _ => rfl,
      m_g_cell_count := ⟨a_g_cell_count, i_g_cell_count, kp_g_cell_count⟩,
      f_g_cells := F_g_cells,
      b_g_cells := F_g_cells.binds (ps := ["self"]) fun _ _ _ _ _ _ us hl => match us, hl with | [_], _ => rfl,
      m_g_cells := ⟨a_g_cells, i_g_cells, kp_g_cells⟩,
      f_g_has_cell := F_g_has_cell,
      b_g_has_cell := F_g_has_cell.binds (ps := ["self", "cell"]) fun _ _ _ _ _ _ us hl => match us, hl with | [_, _], _ => rfl,
      m_g_has_cell := ⟨a_g_has_cell, i_g_has_cell, kp_g_has_cell⟩,
      f_g_column_of := F_g_column_of,
      b_g_column_of := F_g_column_of.binds (ps := ["self", "cell"]) fun _ _ _ _ _ _ us hl => match us, hl with | [_, _], _ => rfl,
      m_g_column_of := ⟨a_g_column_of, i_g_column_of, kp_g_column_of⟩,
      f_g_row_of := F_g_row_of,
      b_g_row_of := F_g_row_of.binds (ps := ["self", "cell"]) fun _ _ _ _ _ _ us hl => match us, hl with | [_, _], _ => rfl,
      m_g_row_of := ⟨a_g_row_of, i_g_row_of, kp_g_row_of⟩,
      f_g_distance := F_g_distance,
      b_g_distance := F_g_distance.binds (ps := ["self", "one", "other"]) fun _ _ _ _ _ _ us hl => match us, hl with | [_, _, _], _ => rfl,
      m_g_distance := ⟨a_g_distance, i_g_distance, kp_g_distance⟩,
      f_g_neighbours := F_g_neighbours,
      b_g_neighbours := F_g_neighbours.binds (ps := ["self", "cell"]) fun _ _ _ _ _ _ us hl => match us, hl with | [_, _], _ => rfl,
      m_g_neighbours := ⟨a_g_neighbours, i_g_neighbours, kp_g_neighbours⟩,
      f_steps_from := F_steps_from,
      b_steps_from := F_steps_from.binds (ps := ["grid", "allowed", "origin"]) fun _ _ _ _ _ _ us hl => match us, hl with | [_, _, _], _ => rfl,
      g_steps_from := PySem.W.mg_of X G a_steps_from,
      f_is_beside := F_is_beside,
      b_is_beside := F_is_beside.binds (ps := ["grid", "cell", "found"]) fun _ _ _ _ _ _ us hl => match us, hl with | [_, _, _], _ => rfl,
      g_is_beside := PySem.W.mg_of X G a_is_beside,
      f_cell_before := F_cell_before,
      b_cell_before := F_cell_before.binds (ps := ["grid", "steps", "cell"]) fun _ _ _ _ _ _ us hl => match us, hl with | [_, _, _], _ => rfl,
      g_cell_before := PySem.W.mg_of X G a_cell_before,
      f_route := F_route,
      b_route := F_route.binds (ps := ["grid", "allowed", "origin", "target"]) fun _ _ _ _ _ _ us hl => match us, hl with | [_, _, _, _], _ => rfl,
      g_route := PySem.W.mg_of X G a_route,
      f_counted := F_counted,
      b_counted := F_counted.binds (ps := ["numbers"]) fun _ _ _ _ _ _ us hl => match us, hl with | [_], _ => rfl,
      g_counted := PySem.W.mg_of X G a_counted,
      f_i_init := F_i_init,
      b_i_init := F_i_init.binds (ps := ["self", "columns", "rows", "step"]) fun _ _ _ _ _ _ us hl => match us, hl with | [_, _, _, _], _ => rfl,
      f_i_set_max_step := F_i_set_max_step,
      b_i_set_max_step := F_i_set_max_step.binds (ps := ["self", "step"]) fun _ _ _ _ _ _ us hl => match us, hl with | [_, _], _ => rfl,
      m_i_set_max_step := ⟨a_i_set_max_step, i_i_set_max_step, kp_i_set_max_step⟩,
      f_i_measure_error := F_i_measure_error,
      b_i_measure_error := F_i_measure_error.binds (ps := ["self", "cell", "thickness"]) fun _ _ _ _ _ _ us hl => match us, hl with | [_, _, _], _ => rfl,
      m_i_measure_error := ⟨a_i_measure_error, i_i_measure_error, kp_i_measure_error⟩,
      f_i_with_measurement := F_i_with_measurement,
      b_i_with_measurement := F_i_with_measurement.binds (ps := ["self", "cell", "thickness"]) fun _ _ _ _ _ _ us hl => match us, hl with | [_, _, _], _ => rfl,
      m_i_with_measurement := ⟨a_i_with_measurement, i_i_with_measurement, kp_i_with_measurement⟩,
      f_i_measure := F_i_measure,
      b_i_measure := F_i_measure.binds (ps := ["self", "cell", "thickness"]) fun _ _ _ _ _ _ us hl => match us, hl with | [_, _, _], _ => rfl,
      m_i_measure := ⟨a_i_measure, i_i_measure, kp_i_measure⟩,
      f_i_is_measured := F_i_is_measured,
      b_i_is_measured := F_i_is_measured.binds (ps := ["self", "cell"]) fun _ _ _ _ _ _ us hl => match us, hl with | [_, _], _ => rfl,
      m_i_is_measured := ⟨a_i_is_measured, i_i_is_measured, kp_i_is_measured⟩,
      f_i_remove_measurement := F_i_remove_measurement,
      b_i_remove_measurement := F_i_remove_measurement.binds (ps := ["self", "cell"]) fun _ _ _ _ _ _ us hl => match us, hl with | [_, _], _ => rfl,
      m_i_remove_measurement := ⟨a_i_remove_measurement, i_i_remove_measurement, kp_i_remove_measurement⟩,
      f_i_list_measurements := F_i_list_measurements,
      b_i_list_measurements := F_i_list_measurements.binds (ps := ["self"]) fun _ _ _ _ _ _ us hl => match us, hl with | [_], _ => rfl,
      m_i_list_measurements := ⟨a_i_list_measurements, i_i_list_measurements, kp_i_list_measurements⟩,
      f_i_lower := F_i_lower,
      b_i_lower := F_i_lower.binds (ps := ["self", "cell"]) fun _ _ _ _ _ _ us hl => match us, hl with | [_, _], _ => rfl,
      m_i_lower := ⟨a_i_lower, i_i_lower, kp_i_lower⟩,
      f_i_upper := F_i_upper,
      b_i_upper := F_i_upper.binds (ps := ["self", "cell"]) fun _ _ _ _ _ _ us hl => match us, hl with | [_, _], _ => rfl,
      m_i_upper := ⟨a_i_upper, i_i_upper, kp_i_upper⟩,
      f_i_uncertainty := F_i_uncertainty,
      b_i_uncertainty := F_i_uncertainty.binds (ps := ["self", "cell"]) fun _ _ _ _ _ _ us hl => match us, hl with | [_, _], _ => rfl,
      m_i_uncertainty := ⟨a_i_uncertainty, i_i_uncertainty, kp_i_uncertainty⟩,
      f_i_lower_bounds := F_i_lower_bounds,
      b_i_lower_bounds := F_i_lower_bounds.binds (ps := ["self"]) fun _ _ _ _ _ _ us hl => match us, hl with | [_], _ => rfl,
      m_i_lower_bounds := ⟨a_i_lower_bounds, i_i_lower_bounds, kp_i_lower_bounds⟩,
      f_i_upper_bounds := F_i_upper_bounds,
      b_i_upper_bounds := F_i_upper_bounds.binds (ps := ["self"]) fun _ _ _ _ _ _ us hl => match us, hl with | [_], _ => rfl,
      m_i_upper_bounds := ⟨a_i_upper_bounds, i_i_upper_bounds, kp_i_upper_bounds⟩,
      f_i_is_possible := F_i_is_possible,
      b_i_is_possible := F_i_is_possible.binds (ps := ["self", "cell", "thickness"]) fun _ _ _ _ _ _ us hl => match us, hl with | [_, _, _], _ => rfl,
      m_i_is_possible := ⟨a_i_is_possible, i_i_is_possible, kp_i_is_possible⟩,
      f_i_most_uncertain_cell := F_i_most_uncertain_cell,
      b_i_most_uncertain_cell := F_i_most_uncertain_cell.binds (ps := ["self"]) fun _ _ _ _ _ _ us hl => match us, hl with | [_], _ => rfl,
      m_i_most_uncertain_cell := ⟨a_i_most_uncertain_cell, i_i_most_uncertain_cell, kp_i_most_uncertain_cell⟩,
      f_i_status_of := F_i_status_of,
      b_i_status_of := F_i_status_of.binds (ps := ["self", "required", "cell"]) fun _ _ _ _ _ _ us hl => match us, hl with | [_, _, _], _ => rfl,
      m_i_status_of := ⟨a_i_status_of, i_i_status_of, kp_i_status_of⟩,
      f_i_check_cell := F_i_check_cell,
      b_i_check_cell := F_i_check_cell.binds (ps := ["self", "required", "cell"]) fun _ _ _ _ _ _ us hl => match us, hl with | [_, _, _], _ => rfl,
      m_i_check_cell := ⟨a_i_check_cell, i_i_check_cell, kp_i_check_cell⟩,
      f_i_cells_with := F_i_cells_with,
      b_i_cells_with := F_i_cells_with.binds (ps := ["self", "required", "status"]) fun _ _ _ _ _ _ us hl => match us, hl with | [_, _, _], _ => rfl,
      m_i_cells_with := ⟨a_i_cells_with, i_i_cells_with, kp_i_cells_with⟩,
      f_i_listed_cells := F_i_listed_cells,
      b_i_listed_cells := F_i_listed_cells.binds (ps := ["self", "required", "status"]) fun _ _ _ _ _ _ us hl => match us, hl with | [_, _, _], _ => rfl,
      m_i_listed_cells := ⟨a_i_listed_cells, i_i_listed_cells, kp_i_listed_cells⟩,
      f_i_have_cells := F_i_have_cells,
      b_i_have_cells := F_i_have_cells.binds (ps := ["self", "origin", "target"]) fun _ _ _ _ _ _ us hl => match us, hl with | [_, _, _], _ => rfl,
      m_i_have_cells := ⟨a_i_have_cells, i_i_have_cells, kp_i_have_cells⟩,
      f_i_route_for := F_i_route_for,
      b_i_route_for := F_i_route_for.binds (ps := ["self", "required", "origin", "target"]) fun _ _ _ _ _ _ us hl => match us, hl with | [_, _, _, _], _ => rfl,
      m_i_route_for := ⟨a_i_route_for, i_i_route_for, kp_i_route_for⟩,
      f_i_safe_route := F_i_safe_route,
      b_i_safe_route := F_i_safe_route.binds (ps := ["self", "required", "origin", "target"]) fun _ _ _ _ _ _ us hl => match us, hl with | [_, _, _, _], _ => rfl,
      m_i_safe_route := ⟨a_i_safe_route, i_i_safe_route, kp_i_safe_route⟩,
      f_i_safe_route_length := F_i_safe_route_length,
      b_i_safe_route_length := F_i_safe_route_length.binds (ps := ["self", "required", "origin", "target"]) fun _ _ _ _ _ _ us hl => match us, hl with | [_, _, _, _], _ => rfl,
      m_i_safe_route_length := ⟨a_i_safe_route_length, i_i_safe_route_length, kp_i_safe_route_length⟩,
      f_i_max_safe_thickness := F_i_max_safe_thickness,
      b_i_max_safe_thickness := F_i_max_safe_thickness.binds (ps := ["self", "origin", "target"]) fun _ _ _ _ _ _ us hl => match us, hl with | [_, _, _], _ => rfl,
      m_i_max_safe_thickness := ⟨a_i_max_safe_thickness, i_i_max_safe_thickness, kp_i_max_safe_thickness⟩,
      f_i_total_with := F_i_total_with,
      b_i_total_with := F_i_total_with.binds (ps := ["self", "cell", "thickness"]) fun _ _ _ _ _ _ us hl => match us, hl with | [_, _, _], _ => rfl,
      m_i_total_with := ⟨a_i_total_with, i_i_total_with, kp_i_total_with⟩,
      f_i_total_uncertainty_with := F_i_total_uncertainty_with,
      b_i_total_uncertainty_with := F_i_total_uncertainty_with.binds (ps := ["self", "cell", "thickness"]) fun _ _ _ _ _ _ us hl => match us, hl with | [_, _, _], _ => rfl,
      m_i_total_uncertainty_with := ⟨a_i_total_uncertainty_with, i_i_total_uncertainty_with, kp_i_total_uncertainty_with⟩,
      f_i_worst_total_uncertainty := F_i_worst_total_uncertainty,
      b_i_worst_total_uncertainty := F_i_worst_total_uncertainty.binds (ps := ["self", "cell"]) fun _ _ _ _ _ _ us hl => match us, hl with | [_, _], _ => rfl,
      m_i_worst_total_uncertainty := ⟨a_i_worst_total_uncertainty, i_i_worst_total_uncertainty, kp_i_worst_total_uncertainty⟩,
      f_i_smallest_consistent_step := F_i_smallest_consistent_step,
      b_i_smallest_consistent_step := F_i_smallest_consistent_step.binds (ps := ["self"]) fun _ _ _ _ _ _ us hl => match us, hl with | [_], _ => rfl,
      m_i_smallest_consistent_step := ⟨a_i_smallest_consistent_step, i_i_smallest_consistent_step, kp_i_smallest_consistent_step⟩,
      f_i_total_uncertainty := F_i_total_uncertainty,
      b_i_total_uncertainty := F_i_total_uncertainty.binds (ps := ["self"]) fun _ _ _ _ _ _ us hl => match us, hl with | [_], _ => rfl,
      m_i_total_uncertainty := ⟨a_i_total_uncertainty, i_i_total_uncertainty, kp_i_total_uncertainty⟩,
      f_i_summary := F_i_summary,
      b_i_summary := F_i_summary.binds (ps := ["self"]) fun _ _ _ _ _ _ us hl => match us, hl with | [_], _ => rfl,
      m_i_summary := ⟨a_i_summary, i_i_summary, kp_i_summary⟩,
      f_is_size := F_is_size,
      b_is_size := F_is_size.binds (ps := ["columns", "rows", "step"]) fun _ _ _ _ _ _ us hl => match us, hl with | [_, _, _], _ => rfl,
      g_is_size := PySem.W.mg_of X G a_is_size,
      f_one_cell := F_one_cell,
      b_one_cell := F_one_cell.binds (ps := ["instance", "word", "cell"]) fun _ _ _ _ _ _ us hl => match us, hl with | [_, _, _], _ => rfl,
      g_one_cell := PySem.W.mg_of X G a_one_cell,
      f_change := F_change,
      b_change := F_change.binds (ps := ["instance", "word", "numbers"]) fun _ _ _ _ _ _ us hl => match us, hl with | [_, _, _], _ => rfl,
      g_change := PySem.W.mg_of X G a_change,
      f_bounds := F_bounds,
      b_bounds := F_bounds.binds (ps := ["instance", "word", "numbers"]) fun _ _ _ _ _ _ us hl => match us, hl with | [_, _, _], _ => rfl,
      g_bounds := PySem.W.mg_of X G a_bounds,
      f_safety := F_safety,
      b_safety := F_safety.binds (ps := ["instance", "word", "numbers"]) fun _ _ _ _ _ _ us hl => match us, hl with | [_, _, _], _ => rfl,
      g_safety := PySem.W.mg_of X G a_safety,
      f_totals := F_totals,
      b_totals := F_totals.binds (ps := ["instance", "word", "numbers"]) fun _ _ _ _ _ _ us hl => match us, hl with | [_, _, _], _ => rfl,
      g_totals := PySem.W.mg_of X G a_totals,
      f_f_init := F_f_init,
      b_f_init := F_f_init.binds (ps := ["self"]) fun _ _ _ _ _ _ us hl => match us, hl with | [_], _ => rfl,
      f_f_create := F_f_create,
      b_f_create := F_f_create.binds (ps := ["self", "numbers"]) fun _ _ _ _ _ _ us hl => match us, hl with | [_, _], _ => rfl,
      m_f_create := ⟨a_f_create, i_f_create, kp_f_create⟩,
      f_f_answer := F_f_answer,
      b_f_answer := F_f_answer.binds (ps := ["self", "word", "numbers"]) fun _ _ _ _ _ _ us hl => match us, hl with | [_, _, _], _ => rfl,
      m_f_answer := ⟨a_f_answer, i_f_answer, kp_f_answer⟩,
      f_answers := F_answers,
      b_answers := F_answers.binds (ps := ["calls"]) fun _ _ _ _ _ _ us hl => match us, hl with | [_], _ => rfl,
      g_answers := PySem.W.mg_of X G a_answers }
  exact ⟨PySem.W.fnOf "answers" "answers" (defArgs s_answers) (defBody s_answers) (defScope s_answers) .none kV_answers dc_answers pm_answers an_answers cd_answers ct_answers, fun s us hu => match us, hu with | [_], _ => .of_eq rfl, fun base _ _ => by
    rw [e]
    exact ok_answers T⟩
theorem ints_nat : ∀ {l : List Int}, (∀ x ∈ l, 0 ≤ x) → Km563.toInts (l.map Int.toNat) = l
  | [], _ => rfl
  | x :: r, h => by
    have e := ints_nat (l := r) fun y hy => h y (List.mem_cons_of_mem _ hy)
    have h0 := h x List.mem_cons_self
    show ((x.toNat : Nat) : Int) :: Km563.toInts (r.map Int.toNat) = x :: r
    rw [e, Int.toNat_of_nonneg h0]
end IceW
open PySem PySem.W PyProof.Rows
set_option maxRecDepth 100000 in
set_option maxHeartbeats 0 in
theorem PySem.Challenge.cw_icebounds_s01_answers_holds : PySem.Challenge.rw_icebounds_s01_answers.Holds := by
  w_on; k_headS; (case hw => exact ⟨[.list [.int 4]], by decide +kernel, by decide +kernel⟩)
  k_fillS
  refine L2.walk_specK (r := PySem.Challenge.rw_icebounds_s01_answers) (k := 12) (CX := L2.CX0) (ps := ["calls"]) (sp := IceW.sp_answers) (by decide +kernel) rfl rfl ⟨rfl, by decide, by decide⟩ (fun w h Y => PySem.W.kIn_of Y) ?F ?S (fun _ _ _ _ z => z)
  case F =>
    intro w mg fa h Y KX G hmg
    refine' IceW.all_mk KX G hmg ?aCG ?pgG ?hdG ?poG ?saG ?mkG ?kcG ?nfG_columns ?nfG_rows ?aCI ?pgI ?hdI ?poI ?saI ?mkI ?kcI ?nfI_grid ?nfI_step ?nfI_measurements ?aCF ?pgF ?hdF ?poF ?saF ?mkF ?kcF ?nfF_instance ?z_abs ?z_max ?z_min ?z_sum ?z_all ?z_any ?z_len ?z_list ?z_range ?z_int ?c_MOST_THICKNESS ?c_NO_CELL ?c_MEASURED ?c_OUTSIDE ?c_NOT_POSSIBLE ?c_MOST_STEP ?c_SAFE ?c_UNCERTAIN ?c_NO_INSTANCE ?c_MOST_SIDE ?c_CREATE ?c_NUMBERS ?cl_NUMBERS ?a_is_consistent ?l_is_consistent ?cdis_consistent ?kp_is_consistent ?a_is_consistent_with ?l_is_consistent_with ?cdis_consistent_with ?kp_is_consistent_with ?a_are_consistent ?l_are_consistent ?cdare_consistent ?kp_are_consistent ?a_lower_at ?l_lower_at ?cdlower_at ?kp_lower_at ?a_upper_at ?l_upper_at ?cdupper_at ?kp_upper_at ?a_uncertainty_at ?l_uncertainty_at ?cduncertainty_at ?kp_uncertainty_at ?a_total_of ?l_total_of ?cdtotal_of ?kp_total_of ?a_without_cell ?l_without_cell ?cdwithout_cell ?kp_without_cell ?a_step_between ?l_step_between ?cdstep_between ?kp_step_between ?a_smallest_step ?l_smallest_step ?cdsmallest_step ?kp_smallest_step ?a_g_init ?i_g_init ?l_g_init ?cdg_init ?kp_g_init ?a_g_cell_count ?i_g_cell_count ?l_g_cell_count ?cdg_cell_count ?kp_g_cell_count ?a_g_cells ?i_g_cells ?l_g_cells ?cdg_cells ?kp_g_cells ?a_g_has_cell ?i_g_has_cell ?l_g_has_cell ?cdg_has_cell ?kp_g_has_cell ?a_g_column_of ?i_g_column_of ?l_g_column_of ?cdg_column_of ?kp_g_column_of ?a_g_row_of ?i_g_row_of ?l_g_row_of ?cdg_row_of ?kp_g_row_of ?a_g_distance ?i_g_distance ?l_g_distance ?cdg_distance ?kp_g_distance ?a_g_neighbours ?i_g_neighbours ?l_g_neighbours ?cdg_neighbours ?kp_g_neighbours ?a_steps_from ?l_steps_from ?cdsteps_from ?kp_steps_from ?a_is_beside ?l_is_beside ?cdis_beside ?kp_is_beside ?a_cell_before ?l_cell_before ?cdcell_before ?kp_cell_before ?a_route ?l_route ?cdroute ?kp_route ?a_counted ?l_counted ?cdcounted ?kp_counted ?a_i_init ?i_i_init ?l_i_init ?cdi_init ?kp_i_init ?a_i_set_max_step ?i_i_set_max_step ?l_i_set_max_step ?cdi_set_max_step ?kp_i_set_max_step ?a_i_measure_error ?i_i_measure_error ?l_i_measure_error ?cdi_measure_error ?kp_i_measure_error ?a_i_with_measurement ?i_i_with_measurement ?l_i_with_measurement ?cdi_with_measurement ?kp_i_with_measurement ?a_i_measure ?i_i_measure ?l_i_measure ?cdi_measure ?kp_i_measure ?a_i_is_measured ?i_i_is_measured ?l_i_is_measured ?cdi_is_measured ?kp_i_is_measured ?a_i_remove_measurement ?i_i_remove_measurement ?l_i_remove_measurement ?cdi_remove_measurement ?kp_i_remove_measurement ?a_i_list_measurements ?i_i_list_measurements ?l_i_list_measurements ?cdi_list_measurements ?kp_i_list_measurements ?a_i_lower ?i_i_lower ?l_i_lower ?cdi_lower ?kp_i_lower ?a_i_upper ?i_i_upper ?l_i_upper ?cdi_upper ?kp_i_upper ?a_i_uncertainty ?i_i_uncertainty ?l_i_uncertainty ?cdi_uncertainty ?kp_i_uncertainty ?a_i_lower_bounds ?i_i_lower_bounds ?l_i_lower_bounds ?cdi_lower_bounds ?kp_i_lower_bounds ?a_i_upper_bounds ?i_i_upper_bounds ?l_i_upper_bounds ?cdi_upper_bounds ?kp_i_upper_bounds ?a_i_is_possible ?i_i_is_possible ?l_i_is_possible ?cdi_is_possible ?kp_i_is_possible ?a_i_most_uncertain_cell ?i_i_most_uncertain_cell ?l_i_most_uncertain_cell ?cdi_most_uncertain_cell ?kp_i_most_uncertain_cell ?a_i_status_of ?i_i_status_of ?l_i_status_of ?cdi_status_of ?kp_i_status_of ?a_i_check_cell ?i_i_check_cell ?l_i_check_cell ?cdi_check_cell ?kp_i_check_cell ?a_i_cells_with ?i_i_cells_with ?l_i_cells_with ?cdi_cells_with ?kp_i_cells_with ?a_i_listed_cells ?i_i_listed_cells ?l_i_listed_cells ?cdi_listed_cells ?kp_i_listed_cells ?a_i_have_cells ?i_i_have_cells ?l_i_have_cells ?cdi_have_cells ?kp_i_have_cells ?a_i_route_for ?i_i_route_for ?l_i_route_for ?cdi_route_for ?kp_i_route_for ?a_i_safe_route ?i_i_safe_route ?l_i_safe_route ?cdi_safe_route ?kp_i_safe_route ?a_i_safe_route_length ?i_i_safe_route_length ?l_i_safe_route_length ?cdi_safe_route_length ?kp_i_safe_route_length ?a_i_max_safe_thickness ?i_i_max_safe_thickness ?l_i_max_safe_thickness ?cdi_max_safe_thickness ?kp_i_max_safe_thickness ?a_i_total_with ?i_i_total_with ?l_i_total_with ?cdi_total_with ?kp_i_total_with ?a_i_total_uncertainty_with ?i_i_total_uncertainty_with ?l_i_total_uncertainty_with ?cdi_total_uncertainty_with ?kp_i_total_uncertainty_with ?a_i_worst_total_uncertainty ?i_i_worst_total_uncertainty ?l_i_worst_total_uncertainty ?cdi_worst_total_uncertainty ?kp_i_worst_total_uncertainty ?a_i_smallest_consistent_step ?i_i_smallest_consistent_step ?l_i_smallest_consistent_step ?cdi_smallest_consistent_step ?kp_i_smallest_consistent_step ?a_i_total_uncertainty ?i_i_total_uncertainty ?l_i_total_uncertainty ?cdi_total_uncertainty ?kp_i_total_uncertainty ?a_i_summary ?i_i_summary ?l_i_summary ?cdi_summary ?kp_i_summary ?a_is_size ?l_is_size ?cdis_size ?kp_is_size ?a_one_cell ?l_one_cell ?cdone_cell ?kp_one_cell ?a_change ?l_change ?cdchange ?kp_change ?a_bounds ?l_bounds ?cdbounds ?kp_bounds ?a_safety ?l_safety ?cdsafety ?kp_safety ?a_totals ?l_totals ?cdtotals ?kp_totals ?a_f_init ?i_f_init ?l_f_init ?cdf_init ?kp_f_init ?a_f_create ?i_f_create ?l_f_create ?cdf_create ?kp_f_create ?a_f_answer ?i_f_answer ?l_f_answer ?cdf_answer ?kp_f_answer ?a_answers ?l_answers ?cdanswers ?kp_answers
    (case aCG => k_is)
    (case pgG => k_is)
    (case hdG => k_is)
    (case poG => k_is)
    (case saG => k_is)
    (case mkG => k_is)
    (case kcG => k_is)
    (case nfG_columns => k_is)
    (case nfG_rows => k_is)
    (case aCI => k_is)
    (case pgI => k_is)
    (case hdI => k_is)
    (case poI => k_is)
    (case saI => k_is)
    (case mkI => k_is)
    (case kcI => k_is)
    (case nfI_grid => k_is)
    (case nfI_step => k_is)
    (case nfI_measurements => k_is)
    (case aCF => k_is)
    (case pgF => k_is)
    (case hdF => k_is)
    (case poF => k_is)
    (case saF => k_is)
    (case mkF => k_is)
    (case kcF => k_is)
    (case nfF_instance => k_is)
    (case z_abs => k_is)
    (case z_max => k_is)
    (case z_min => k_is)
    (case z_sum => k_is)
    (case z_all => k_is)
    (case z_any => k_is)
    (case z_len => k_is)
    (case z_list => k_is)
    (case z_range => k_is)
    (case z_int => k_is)
    (case c_MOST_THICKNESS => k_is)
    (case c_NO_CELL => k_is)
    (case c_MEASURED => k_is)
    (case c_OUTSIDE => k_is)
    (case c_NOT_POSSIBLE => k_is)
    (case c_MOST_STEP => k_is)
    (case c_SAFE => k_is)
    (case c_UNCERTAIN => k_is)
    (case c_NO_INSTANCE => k_is)
    (case c_MOST_SIDE => k_is)
    (case c_CREATE => k_is)
    (case c_NUMBERS => k_is)
    (case cl_NUMBERS => k_is)
    (case a_is_consistent => k_is)
    (case l_is_consistent => k_is)
    (case cdis_consistent => k_is)
    (case kp_is_consistent => k_is)
    (case a_is_consistent_with => k_is)
    (case l_is_consistent_with => k_is)
    (case cdis_consistent_with => k_is)
    (case kp_is_consistent_with => k_is)
    (case a_are_consistent => k_is)
    (case l_are_consistent => k_is)
    (case cdare_consistent => k_is)
    (case kp_are_consistent => k_is)
    (case a_lower_at => k_is)
    (case l_lower_at => k_is)
    (case cdlower_at => k_is)
    (case kp_lower_at => k_is)
    (case a_upper_at => k_is)
    (case l_upper_at => k_is)
    (case cdupper_at => k_is)
    (case kp_upper_at => k_is)
    (case a_uncertainty_at => k_is)
    (case l_uncertainty_at => k_is)
    (case cduncertainty_at => k_is)
    (case kp_uncertainty_at => k_is)
    (case a_total_of => k_is)
    (case l_total_of => k_is)
    (case cdtotal_of => k_is)
    (case kp_total_of => k_is)
    (case a_without_cell => k_is)
    (case l_without_cell => k_is)
    (case cdwithout_cell => k_is)
    (case kp_without_cell => k_is)
    (case a_step_between => k_is)
    (case l_step_between => k_is)
    (case cdstep_between => k_is)
    (case kp_step_between => k_is)
    (case a_smallest_step => k_is)
    (case l_smallest_step => k_is)
    (case cdsmallest_step => k_is)
    (case kp_smallest_step => k_is)
    (case a_g_init => k_is)
    (case i_g_init => k_is)
    (case l_g_init => k_is)
    (case cdg_init => k_is)
    (case kp_g_init => k_is)
    (case a_g_cell_count => k_is)
    (case i_g_cell_count => k_is)
    (case l_g_cell_count => k_is)
    (case cdg_cell_count => k_is)
    (case kp_g_cell_count => k_is)
    (case a_g_cells => k_is)
    (case i_g_cells => k_is)
    (case l_g_cells => k_is)
    (case cdg_cells => k_is)
    (case kp_g_cells => k_is)
    (case a_g_has_cell => k_is)
    (case i_g_has_cell => k_is)
    (case l_g_has_cell => k_is)
    (case cdg_has_cell => k_is)
    (case kp_g_has_cell => k_is)
    (case a_g_column_of => k_is)
    (case i_g_column_of => k_is)
    (case l_g_column_of => k_is)
    (case cdg_column_of => k_is)
    (case kp_g_column_of => k_is)
    (case a_g_row_of => k_is)
    (case i_g_row_of => k_is)
    (case l_g_row_of => k_is)
    (case cdg_row_of => k_is)
    (case kp_g_row_of => k_is)
    (case a_g_distance => k_is)
    (case i_g_distance => k_is)
    (case l_g_distance => k_is)
    (case cdg_distance => k_is)
    (case kp_g_distance => k_is)
    (case a_g_neighbours => k_is)
    (case i_g_neighbours => k_is)
    (case l_g_neighbours => k_is)
    (case cdg_neighbours => k_is)
    (case kp_g_neighbours => k_is)
    (case a_steps_from => k_is)
    (case l_steps_from => k_is)
    (case cdsteps_from => k_is)
    (case kp_steps_from => k_is)
    (case a_is_beside => k_is)
    (case l_is_beside => k_is)
    (case cdis_beside => k_is)
    (case kp_is_beside => k_is)
    (case a_cell_before => k_is)
    (case l_cell_before => k_is)
    (case cdcell_before => k_is)
    (case kp_cell_before => k_is)
    (case a_route => k_is)
    (case l_route => k_is)
    (case cdroute => k_is)
    (case kp_route => k_is)
    (case a_counted => k_is)
    (case l_counted => k_is)
    (case cdcounted => k_is)
    (case kp_counted => k_is)
    (case a_i_init => k_is)
    (case i_i_init => k_is)
    (case l_i_init => k_is)
    (case cdi_init => k_is)
    (case kp_i_init => k_is)
    (case a_i_set_max_step => k_is)
    (case i_i_set_max_step => k_is)
    (case l_i_set_max_step => k_is)
    (case cdi_set_max_step => k_is)
    (case kp_i_set_max_step => k_is)
    (case a_i_measure_error => k_is)
    (case i_i_measure_error => k_is)
    (case l_i_measure_error => k_is)
    (case cdi_measure_error => k_is)
    (case kp_i_measure_error => k_is)
    (case a_i_with_measurement => k_is)
    (case i_i_with_measurement => k_is)
    (case l_i_with_measurement => k_is)
    (case cdi_with_measurement => k_is)
    (case kp_i_with_measurement => k_is)
    (case a_i_measure => k_is)
    (case i_i_measure => k_is)
    (case l_i_measure => k_is)
    (case cdi_measure => k_is)
    (case kp_i_measure => k_is)
    (case a_i_is_measured => k_is)
    (case i_i_is_measured => k_is)
    (case l_i_is_measured => k_is)
    (case cdi_is_measured => k_is)
    (case kp_i_is_measured => k_is)
    (case a_i_remove_measurement => k_is)
    (case i_i_remove_measurement => k_is)
    (case l_i_remove_measurement => k_is)
    (case cdi_remove_measurement => k_is)
    (case kp_i_remove_measurement => k_is)
    (case a_i_list_measurements => k_is)
    (case i_i_list_measurements => k_is)
    (case l_i_list_measurements => k_is)
    (case cdi_list_measurements => k_is)
    (case kp_i_list_measurements => k_is)
    (case a_i_lower => k_is)
    (case i_i_lower => k_is)
    (case l_i_lower => k_is)
    (case cdi_lower => k_is)
    (case kp_i_lower => k_is)
    (case a_i_upper => k_is)
    (case i_i_upper => k_is)
    (case l_i_upper => k_is)
    (case cdi_upper => k_is)
    (case kp_i_upper => k_is)
    (case a_i_uncertainty => k_is)
    (case i_i_uncertainty => k_is)
    (case l_i_uncertainty => k_is)
    (case cdi_uncertainty => k_is)
    (case kp_i_uncertainty => k_is)
    (case a_i_lower_bounds => k_is)
    (case i_i_lower_bounds => k_is)
    (case l_i_lower_bounds => k_is)
    (case cdi_lower_bounds => k_is)
    (case kp_i_lower_bounds => k_is)
    (case a_i_upper_bounds => k_is)
    (case i_i_upper_bounds => k_is)
    (case l_i_upper_bounds => k_is)
    (case cdi_upper_bounds => k_is)
    (case kp_i_upper_bounds => k_is)
    (case a_i_is_possible => k_is)
    (case i_i_is_possible => k_is)
    (case l_i_is_possible => k_is)
    (case cdi_is_possible => k_is)
    (case kp_i_is_possible => k_is)
    (case a_i_most_uncertain_cell => k_is)
    (case i_i_most_uncertain_cell => k_is)
    (case l_i_most_uncertain_cell => k_is)
    (case cdi_most_uncertain_cell => k_is)
    (case kp_i_most_uncertain_cell => k_is)
    (case a_i_status_of => k_is)
    (case i_i_status_of => k_is)
    (case l_i_status_of => k_is)
    (case cdi_status_of => k_is)
    (case kp_i_status_of => k_is)
    (case a_i_check_cell => k_is)
    (case i_i_check_cell => k_is)
    (case l_i_check_cell => k_is)
    (case cdi_check_cell => k_is)
    (case kp_i_check_cell => k_is)
    (case a_i_cells_with => k_is)
    (case i_i_cells_with => k_is)
    (case l_i_cells_with => k_is)
    (case cdi_cells_with => k_is)
    (case kp_i_cells_with => k_is)
    (case a_i_listed_cells => k_is)
    (case i_i_listed_cells => k_is)
    (case l_i_listed_cells => k_is)
    (case cdi_listed_cells => k_is)
    (case kp_i_listed_cells => k_is)
    (case a_i_have_cells => k_is)
    (case i_i_have_cells => k_is)
    (case l_i_have_cells => k_is)
    (case cdi_have_cells => k_is)
    (case kp_i_have_cells => k_is)
    (case a_i_route_for => k_is)
    (case i_i_route_for => k_is)
    (case l_i_route_for => k_is)
    (case cdi_route_for => k_is)
    (case kp_i_route_for => k_is)
    (case a_i_safe_route => k_is)
    (case i_i_safe_route => k_is)
    (case l_i_safe_route => k_is)
    (case cdi_safe_route => k_is)
    (case kp_i_safe_route => k_is)
    (case a_i_safe_route_length => k_is)
    (case i_i_safe_route_length => k_is)
    (case l_i_safe_route_length => k_is)
    (case cdi_safe_route_length => k_is)
    (case kp_i_safe_route_length => k_is)
    (case a_i_max_safe_thickness => k_is)
    (case i_i_max_safe_thickness => k_is)
    (case l_i_max_safe_thickness => k_is)
    (case cdi_max_safe_thickness => k_is)
    (case kp_i_max_safe_thickness => k_is)
    (case a_i_total_with => k_is)
    (case i_i_total_with => k_is)
    (case l_i_total_with => k_is)
    (case cdi_total_with => k_is)
    (case kp_i_total_with => k_is)
    (case a_i_total_uncertainty_with => k_is)
    (case i_i_total_uncertainty_with => k_is)
    (case l_i_total_uncertainty_with => k_is)
    (case cdi_total_uncertainty_with => k_is)
    (case kp_i_total_uncertainty_with => k_is)
    (case a_i_worst_total_uncertainty => k_is)
    (case i_i_worst_total_uncertainty => k_is)
    (case l_i_worst_total_uncertainty => k_is)
    (case cdi_worst_total_uncertainty => k_is)
    (case kp_i_worst_total_uncertainty => k_is)
    (case a_i_smallest_consistent_step => k_is)
    (case i_i_smallest_consistent_step => k_is)
    (case l_i_smallest_consistent_step => k_is)
    (case cdi_smallest_consistent_step => k_is)
    (case kp_i_smallest_consistent_step => k_is)
    (case a_i_total_uncertainty => k_is)
    (case i_i_total_uncertainty => k_is)
    (case l_i_total_uncertainty => k_is)
    (case cdi_total_uncertainty => k_is)
    (case kp_i_total_uncertainty => k_is)
    (case a_i_summary => k_is)
    (case i_i_summary => k_is)
    (case l_i_summary => k_is)
    (case cdi_summary => k_is)
    (case kp_i_summary => k_is)
    (case a_is_size => k_is)
    (case l_is_size => k_is)
    (case cdis_size => k_is)
    (case kp_is_size => k_is)
    (case a_one_cell => k_is)
    (case l_one_cell => k_is)
    (case cdone_cell => k_is)
    (case kp_one_cell => k_is)
    (case a_change => k_is)
    (case l_change => k_is)
    (case cdchange => k_is)
    (case kp_change => k_is)
    (case a_bounds => k_is)
    (case l_bounds => k_is)
    (case cdbounds => k_is)
    (case kp_bounds => k_is)
    (case a_safety => k_is)
    (case l_safety => k_is)
    (case cdsafety => k_is)
    (case kp_safety => k_is)
    (case a_totals => k_is)
    (case l_totals => k_is)
    (case cdtotals => k_is)
    (case kp_totals => k_is)
    (case a_f_init => k_is)
    (case i_f_init => k_is)
    (case l_f_init => k_is)
    (case cdf_init => k_is)
    (case kp_f_init => k_is)
    (case a_f_create => k_is)
    (case i_f_create => k_is)
    (case l_f_create => k_is)
    (case cdf_create => k_is)
    (case kp_f_create => k_is)
    (case a_f_answer => k_is)
    (case i_f_answer => k_is)
    (case l_f_answer => k_is)
    (case cdf_answer => k_is)
    (case kp_f_answer => k_is)
    (case a_answers => k_is)
    (case l_answers => k_is)
    (case cdanswers => k_is)
    (case kp_answers => k_is)
  case S =>
    intro K H xs a hO hwi hask hx
    cases hx with
    | cons h1 h2 =>
      cases h2
      cases h1 with
      | lst hs ha =>
        have e := L2.ints_dw a.1 _ ha
        subst e
        have q : ((Codec.inLen 0 160 a.1 && a.1.all (Codec.inInt 0 4294967295)) && true) = true := hwi
        rw [Bool.and_eq_true, Bool.and_eq_true] at q
        have hn : ∀ x ∈ a.1, 0 ≤ x := fun x hx => (Codec.inInt_iff.mp (List.all_eq_true.mp q.1.2 x hx)).1
        have ei := IceW.ints_nat hn
        have hk : PyKm563.answers_asked a.1 = true := hask
        refine ⟨_, a.1.map Int.toNat, rfl, ?_, ?_, ?_, fun H' p hp => ?_⟩
        · show L2.SqL K H _ ((Km563.toInts (a.1.map Int.toNat)).map L2.V.int)
          rw [ei]
          exact hs
        · rw [List.length_map]
          exact (Codec.inNat_iff.mp q.1.1).2
        · rw [ei]
          exact hk
        · rw [ei] at hp
          exact .lst (L2.SqL.of hp) (L2.dw_ints _)
#print axioms PySem.Challenge.cw_icebounds_s01_answers_holds
