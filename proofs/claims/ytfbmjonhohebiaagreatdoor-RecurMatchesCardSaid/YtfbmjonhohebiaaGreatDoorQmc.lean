/- Texts merged: what the law needs, and no more. -/
import Derived.Test.YtfbmjonhohebiaaGreatDoorQmb
import Derived.IntWalk
import Derived.WalkMore
section
set_option linter.unusedVariables false
set_option linter.unusedSimpArgs false
namespace Go.Proofs.YtfbmjonhohebiaaGreatDoor
open Go.RowKit Go.Proofs.YtfbmjonhohebiaaGreatDoorW.PrintWords Go.Proofs.YtfbmjonhohebiaaGreatDoorW.PrintLast Go.Proofs.YtfbmjonhohebiaaGreatDoorW.PrintMore PRecurExpands
theorem ev_forall {g : Int → Nat → Option Bool} {n : Nat} {P : Nat → Prop} (hend : Ev (g n) true)
    (hyes : ∀ i : Nat, i < n → (∀ j, j < i → P j) → P i → ∀ r, Ev (g ((i : Int) + 1)) r → Ev (g i) r) (hno : ∀ i : Nat, i < n → (∀ j, j < i → P j) → ¬ P i → Ev (g i) false) :
    ∃ b, Ev (g 0) b ∧ (b = true ↔ ∀ i, i < n → P i) := by
  have key : ∀ d i : Nat, i + d = n → (∀ j, j < i → P j) → ∃ b, Ev (g i) b ∧ (b = true ↔ ∀ j, i ≤ j → j < n → P j) := by
    intro d
    induction d with
    | zero =>
      intro i hi _
      obtain rfl : i = n := by omega
      exact ⟨true, hend, by simp; intro j h1 h2; omega⟩
    | succ d ih =>
      intro i hi hbe
      by_cases hp : P i
      · obtain ⟨b, h1, hb⟩ := ih (i + 1) (by omega) (fun j hj => if e : j = i then e ▸ hp else hbe j (by omega))
        refine ⟨b, hyes i (by omega) hbe hp _ (by rw [show ((i : Int) + 1) = ((i + 1 : Nat) : Int) by omega]; exact h1), hb.trans ⟨?_, ?_⟩⟩
        · intro h j h1 h2
          by_cases e : j = i
          · subst e; exact hp
          · exact h j (by omega) h2
        · intro h j h1 h2; exact h j (by omega) h2
      · exact ⟨false, hno i (by omega) hbe hp, by simp; exact ⟨i, Nat.le_refl _, by omega, hp⟩⟩
  obtain ⟨b, h, hb⟩ := key n 0 (by omega) (fun j hj => by omega)
  exact ⟨b, by simpa using h, by simpa using hb⟩
theorem ev_exists {g : Int → Nat → Option Bool} {n : Nat} {P : Nat → Prop} (hend : Ev (g n) false)
    (hyes : ∀ i : Nat, i < n → P i → Ev (g i) true) (hno : ∀ i : Nat, i < n → ¬ P i → ∀ r, Ev (g ((i : Int) + 1)) r → Ev (g i) r) :
    ∃ b, Ev (g 0) b ∧ (b = true ↔ ∃ i, i < n ∧ P i) := by
  have key : ∀ d i : Nat, i + d = n → ∃ b, Ev (g i) b ∧ (b = true ↔ ∃ j, i ≤ j ∧ j < n ∧ P j) := by
    intro d
    induction d with
    | zero =>
      intro i hi
      obtain rfl : i = n := by omega
      exact ⟨false, hend, by simp; intro j h1 h2; omega⟩
    | succ d ih =>
      intro i hi
      by_cases hp : P i
      · exact ⟨true, hyes i (by omega) hp, by simp; exact ⟨i, Nat.le_refl _, by omega, hp⟩⟩
      · obtain ⟨b, h1, hb⟩ := ih (i + 1) (by omega)
        refine ⟨b, hno i (by omega) hp _ (by rw [show ((i : Int) + 1) = ((i + 1 : Nat) : Int) by omega]; exact h1), hb.trans ⟨?_, ?_⟩⟩
        · rintro ⟨j, h1, h2, h3⟩; exact ⟨j, by omega, h2, h3⟩
        · rintro ⟨j, h1, h2, h3⟩
          refine ⟨j, ?_, h2, h3⟩
          rcases Nat.lt_or_ge i j with h | h
          · omega
          · have : i = j := by omega
            subst this; exact absurd h3 hp
  obtain ⟨b, h, hb⟩ := key n 0 (by omega)
  exact ⟨b, by simpa using h, by simpa using hb⟩
theorem bool_one {a b : Bool} {P : Prop} (ha : a = true ↔ P) (hb : b = true ↔ P) : a = b := Bool.eq_iff_iff.mpr (ha.trans hb.symm)
theorem wrap64_in {x : Int} (h0 : -9223372036854775808 ≤ x) (h1 : x ≤ 9223372036854775807) : wrap64 x = x := by unfold wrap64; omega
theorem rd_nat (l : List Int) (i : Nat) : rd l (i : Int) = l.getD i 0 := by simp [rd]
theorem rd59_nat (l : List S59) (i : Nat) : rd_T59 l (i : Int) = l.getD i z59 := by simp [rd_T59]
theorem index_int_ev (l : List Int) (a : Int) (hl : l.length ≤ 1000000000) :
    ∃ r : Int, Ev (fun k => slices_Index_int_int.f k l a) r ∧ decide (r ≥ 0) = l.contains a := by
  have key : ∀ d i : Nat, i + d = l.length → ∃ r : Int, Ev (fun k => slices_Index_int_int.l0 k l a (l.length : Int) (i : Int)) r ∧ decide (r ≥ 0) = (l.drop i).contains a := by
    intro d
    induction d with
    | zero =>
      intro i hi
      refine ⟨-1, Ev.step (f := fun _ => some (-1)) (fun k => ?_) (Ev.now _), ?_⟩
      · simp only [slices_Index_int_int.l0]; rw [if_neg (by omega)]
      · rw [List.drop_eq_nil_of_le (by omega)]; rfl
    | succ d ih =>
      intro i hi
      have hd : l.drop i = l.getD i 0 :: l.drop (i + 1) := by
        rw [List.drop_eq_getElem_cons (by omega)]; simp [show i < l.length by omega]
      by_cases e : a = rd l (i : Int)
      · refine ⟨(i : Int), Ev.step (f := fun _ => some (i : Int)) (fun k => ?_) (Ev.now _), ?_⟩
        · simp only [slices_Index_int_int.l0]; rw [if_pos (by omega), if_pos (by omega), if_pos (by omega), if_pos e]
        · rw [hd]; rw [rd_nat] at e; simp [e]
      · obtain ⟨r, hr, hd'⟩ := ih (i + 1) (by omega)
        refine ⟨r, Ev.step (fun k => ?_) hr, ?_⟩
        · simp only [slices_Index_int_int.l0]
          rw [if_pos (by omega), if_pos (by omega), if_pos (by omega), if_neg e, wrap64_in (by omega) (by omega)]
          rfl
        · rw [hd]; rw [rd_nat] at e
          rw [hd', List.contains_cons, beq_eq_false_iff_ne.mpr e, Bool.false_or]
  obtain ⟨r, hr, hd⟩ := key l.length 0 (by omega)
  exact ⟨r, hr, by simpa using hd⟩
theorem contains_int_ev (l : List Int) (a : Int) (hl : l.length ≤ 1000000000) : Ev (fun k => slices_Contains_int_int.f k l a) (l.contains a) := by
  obtain ⟨r, hr, hd⟩ := index_int_ev l a hl
  unfold slices_Contains_int_int.f
  exact Ev.bind hr (by rw [hd]; exact Ev.now _)
theorem index_week_ev (l : List S59) (a b : Int) (hl : l.length ≤ 1000000000) :
    ∃ r : Int, Ev (fun k => recur_Weekday_110.f k l a b) r ∧ decide (r ≥ 0) = l.any (fun x => a == x.f0 && b == x.f1) := by
  have key : ∀ d i : Nat, i + d = l.length → ∃ r : Int, Ev (fun k => recur_Weekday_110.l0 k l (l.length : Int) (i : Int) a b) r ∧ decide (r ≥ 0) = (l.drop i).any (fun x => a == x.f0 && b == x.f1) := by
    intro d
    induction d with
    | zero =>
      intro i hi
      refine ⟨-1, Ev.step (f := fun _ => some (-1)) (fun k => ?_) (Ev.now _), ?_⟩
      · simp only [recur_Weekday_110.l0]; rw [if_neg (by omega)]
      · rw [List.drop_eq_nil_of_le (by omega)]; rfl
    | succ d ih =>
      intro i hi
      have hd : l.drop i = l.getD i z59 :: l.drop (i + 1) := by
        rw [List.drop_eq_getElem_cons (by omega)]; simp [show i < l.length by omega]
      by_cases e : (a == (rd_T59 l (i : Int)).f0 && b == (rd_T59 l (i : Int)).f1) = true
      · refine ⟨(i : Int), Ev.step (f := fun _ => some (i : Int)) (fun k => ?_) (Ev.now _), ?_⟩
        · simp only [recur_Weekday_110.l0]; rw [if_pos (by omega), if_pos (by omega), if_pos (by omega), if_pos e]
        · rw [hd, List.any_cons, ← rd59_nat, e]; simp
      · obtain ⟨r, hr, hd'⟩ := ih (i + 1) (by omega)
        refine ⟨r, Ev.step (fun k => ?_) hr, ?_⟩
        · simp only [recur_Weekday_110.l0]
          rw [if_pos (by omega), if_pos (by omega), if_pos (by omega), if_neg e, wrap64_in (by omega) (by omega)]
          rfl
        · rw [hd, List.any_cons, ← rd59_nat, hd', Bool.eq_false_iff.mpr e, Bool.false_or]
  obtain ⟨r, hr, hd⟩ := key l.length 0 (by omega)
  exact ⟨r, hr, by simpa using hd⟩
def onS (l : List S59) (wd : Int) : Bool := l.isEmpty || l.any (fun x => wd == x.f0 && 0 == x.f1)
theorem on_ev (a0 a1 a2 a3 : Int) (l4 l5 : List Int) (l : List S59) (wd : Int) (hl : l.length ≤ 1000000000) : Ev (fun k => recur_Rule_on.f k a0 a1 a2 a3 l4 l5 l wd) (onS l wd) := by
  unfold recur_Rule_on.f onS
  by_cases h : (l.length : Int) = 0
  · have : l = [] := by
      cases l with
      | nil => rfl
      | cons a b => simp at h; omega
    subst this
    simp only [List.length_nil, Int.ofNat_eq_natCast, Int.natCast_zero, if_true, List.isEmpty_nil, Bool.true_or]
    exact Ev.now _
  · simp only [if_neg h]
    obtain ⟨r, hr, hd⟩ := index_week_ev l wd 0 hl
    have he : l.isEmpty = false := by
      cases l with
      | nil => simp at h
      | cons a b => rfl
    rw [he, Bool.false_or, ← hd]
    exact Ev.bind (by unfold recur_Weekday_85.f; exact Ev.bind hr (Ev.now _)) (Ev.now _)
def risesP (l : List Int) (lo up : Int) (i : Nat) : Prop := lo ≤ l.getD i 0 ∧ l.getD i 0 ≤ up ∧ l.getD i 0 ≠ 0 ∧ (0 < i → l.getD (i - 1) 0 < l.getD i 0)
def RisesP (l : List Int) (lo up : Int) : Prop := ∀ i, i < l.length → risesP l lo up i
theorem rises_ev (l : List Int) (lo up : Int) (hl : l.length ≤ 1000000000) : ∃ b, Ev (fun k => recur_rises.f k l lo up) b ∧ (b = true ↔ RisesP l lo up) := by
  unfold recur_rises.f RisesP
  refine ev_forall (g := fun i k => recur_rises.l0 k l lo up l (l.length : Int) i) ?_ ?_ ?_
  · exact Ev.step (f := fun _ => some true) (fun k => by simp only [recur_rises.l0]; rw [if_neg (by omega)]) (Ev.now _)
  · rintro i hi _ ⟨h1, h2, h3, h4⟩ r hr
    refine Ev.step (fun k => ?_) hr
    simp only [recur_rises.l0]
    rw [if_pos (by omega), if_pos (by omega), if_pos (by omega), rd_nat, if_neg (by omega), if_neg (by omega), if_neg h3]
    by_cases h0 : (i : Int) > 0
    · rw [if_pos h0, wrap64_in (x := (i : Int) - 1) (by omega) (by omega), if_pos (by omega), if_pos (by omega), show (i : Int) - 1 = ((i - 1 : Nat) : Int) by omega, rd_nat, if_neg (by have := h4 (by omega); omega), wrap64_in (by omega) (by omega)]
    · rw [if_neg h0, wrap64_in (by omega) (by omega)]
  · intro i hi _ hn
    refine Ev.step (f := fun _ => some false) (fun k => ?_) (Ev.now _)
    simp only [recur_rises.l0]
    rw [if_pos (by omega), if_pos (by omega), if_pos (by omega), rd_nat]
    by_cases h1 : l.getD i 0 < lo
    · rw [if_pos h1]
    · rw [if_neg h1]
      by_cases h2 : l.getD i 0 > up
      · rw [if_pos h2]
      · rw [if_neg h2]
        by_cases h3 : l.getD i 0 = 0
        · rw [if_pos h3]
        · rw [if_neg h3]
          have h4 : 0 < i ∧ ¬ l.getD (i - 1) 0 < l.getD i 0 := by
            unfold risesP at hn
            refine Classical.byContradiction fun hc => hn ⟨by omega, by omega, h3, fun h => Classical.byContradiction fun hc2 => hc ⟨h, hc2⟩⟩
          rw [if_pos (by omega), wrap64_in (x := (i : Int) - 1) (by omega) (by omega), if_pos (by omega), if_pos (by omega), show (i : Int) - 1 = ((i - 1 : Nat) : Int) by omega, rd_nat, if_pos (by omega)]
theorem Ev.succ {α : Type} {g : Nat → Option α} {r : α} (h : Ev (fun k => g (k + 1)) r) : Ev g r := Ev.step (fun _ => rfl) h
theorem Ev.pos {α : Type} {c : Prop} [Decidable c] {A B : Nat → Option α} {r : α} (hc : c) (h1 : Ev A r) : Ev (fun k => if c then A k else B k) r := by
  simp only [if_pos hc]; exact h1
theorem Ev.neg {α : Type} {c : Prop} [Decidable c] {A B : Nat → Option α} {r : α} (hc : ¬ c) (h1 : Ev B r) : Ev (fun k => if c then A k else B k) r := by
  simp only [if_neg hc]; exact h1
theorem Ev.ite {α : Type} {c : Prop} [Decidable c] {A B : Nat → Option α} {r : α} (h1 : c → Ev A r) (h2 : ¬ c → Ev B r) : Ev (fun k => if c then A k else B k) r := by
  by_cases h : c
  · simp only [if_pos h]; exact h1 h
  · simp only [if_neg h]; exact h2 h
def weekP (l : List S59) (fine : Bool) (i : Nat) : Prop :=
  0 ≤ (l.getD i z59).f0 ∧ (l.getD i z59).f0 ≤ 6 ∧ -5 ≤ (l.getD i z59).f1 ∧ (l.getD i z59).f1 ≤ 5 ∧ (fine = false → (l.getD i z59).f1 = 0) ∧
  (0 < i → ((l.getD (i - 1) z59).f0 < (l.getD i z59).f0 ∨ ((l.getD (i - 1) z59).f0 = (l.getD i z59).f0 ∧ (l.getD (i - 1) z59).f1 < (l.getD i z59).f1)))
def WeekP (l : List S59) (fine : Bool) : Prop := ∀ i, i < l.length → weekP l fine i
theorem right_l0_ev (x3 : Bool) (l : List S59) (a0 a1 a2 a3 : Int) (l4 l5 : List Int) (hl : l.length ≤ 1000000000) :
    ∃ b, Ev (fun k => recur_Right.l0 k x3 l (l.length : Int) 0 a0 a1 a2 a3 l4 l5 l) b ∧ (b = true ↔ WeekP l x3) := by
  unfold WeekP
  refine ev_forall (g := fun i k => recur_Right.l0 k x3 l (l.length : Int) i a0 a1 a2 a3 l4 l5 l) ?_ ?_ ?_
  · exact Ev.step (f := fun _ => some true) (fun k => by simp only [recur_Right.l0]; rw [if_neg (by omega)]) (Ev.now _)
  · rintro i hi hbe ⟨h1, h2, h3, h4, h5, h6⟩ r hr
    refine Ev.step (f := fun k => recur_Right.j4 k x3 (i : Int) l (l.length : Int) (i : Int) false a0 a1 a2 a3 l4 l5 l (l.getD i z59).f0 (l.getD i z59).f1) (fun k => ?_) ?_
    · simp only [recur_Right.l0]
      rw [if_pos (by omega), if_pos (by omega), if_pos (by omega), rd59_nat, if_neg (by omega), if_neg (by omega), if_neg (by omega), if_neg (by omega)]
      cases x3 with
      | true => rw [if_pos rfl]
      | false => rw [if_neg (by decide), h5 rfl]; rfl
    · refine Ev.step (fun k => ?_) hr
      simp only [recur_Right.j4]
      rw [if_neg (by decide)]
      by_cases h0 : (i : Int) > 0
      · obtain ⟨p1, p2, p3, p4, _, _⟩ := hbe (i - 1) (by omega)
        rw [if_pos h0, wrap64_in (x := (i : Int) - 1) (by omega) (by omega), if_pos (by omega), if_pos (by omega), show (i : Int) - 1 = ((i - 1 : Nat) : Int) by omega, rd59_nat]
        unfold recur_order.f
        have h6' := h6 (by omega)
        by_cases e : (l.getD (i - 1) z59).f0 = (l.getD i z59).f0
        · rw [if_pos e]; simp only [Option.bind_some]
          rw [wrap64_in (x := (l.getD (i - 1) z59).f1 - _) (by omega) (by omega), if_neg (by omega), wrap64_in (by omega) (by omega)]
        · rw [if_neg e]; simp only [Option.bind_some]
          rw [wrap64_in (x := (l.getD (i - 1) z59).f0 - _) (by omega) (by omega), if_neg (by omega), wrap64_in (by omega) (by omega)]
      · rw [if_neg h0, wrap64_in (by omega) (by omega)]
  · intro i hi hbe hn
    have mid : ∀ x : Bool, (x = true ∨ (x = false ∧ 0 ≤ (l.getD i z59).f0 ∧ (l.getD i z59).f0 ≤ 6 ∧ -5 ≤ (l.getD i z59).f1 ∧ (l.getD i z59).f1 ≤ 5 ∧ (x3 = false → (l.getD i z59).f1 = 0))) →
        Ev (fun k => recur_Right.j4 k x3 (i : Int) l (l.length : Int) (i : Int) x a0 a1 a2 a3 l4 l5 l (l.getD i z59).f0 (l.getD i z59).f1) false := by
      intro x hx
      refine Ev.step (f := fun _ => some false) (fun k => ?_) (Ev.now _)
      simp only [recur_Right.j4]
      rcases hx with rfl | ⟨rfl, q1, q2, q3, q4, q5⟩
      · rw [if_pos rfl]
      · rw [if_neg (by decide)]
        have h4 : 0 < i ∧ ¬ ((l.getD (i - 1) z59).f0 < (l.getD i z59).f0 ∨ ((l.getD (i - 1) z59).f0 = (l.getD i z59).f0 ∧ (l.getD (i - 1) z59).f1 < (l.getD i z59).f1)) := by
          unfold weekP at hn
          exact Classical.byContradiction fun hc => hn ⟨q1, q2, q3, q4, q5, fun h => Classical.byContradiction fun hc2 => hc ⟨h, hc2⟩⟩
        obtain ⟨h0, h6⟩ := h4
        obtain ⟨p1, p2, p3, p4, _, _⟩ := hbe (i - 1) (by omega)
        rw [if_pos (by omega), wrap64_in (x := (i : Int) - 1) (by omega) (by omega), if_pos (by omega), if_pos (by omega), show (i : Int) - 1 = ((i - 1 : Nat) : Int) by omega, rd59_nat]
        unfold recur_order.f
        by_cases e : (l.getD (i - 1) z59).f0 = (l.getD i z59).f0
        · rw [if_pos e]; simp only [Option.bind_some]
          rw [wrap64_in (x := (l.getD (i - 1) z59).f1 - _) (by omega) (by omega), if_pos (by omega)]
        · rw [if_neg e]; simp only [Option.bind_some]
          rw [wrap64_in (x := (l.getD (i - 1) z59).f0 - _) (by omega) (by omega), if_pos (by omega)]
    refine Ev.succ ?_
    simp only [recur_Right.l0, rd59_nat]
    refine Ev.pos (by omega) (Ev.pos (by omega) (Ev.pos (by omega) ?_))
    refine Ev.ite (fun _ => mid true (.inl rfl)) (fun q1 => Ev.ite (fun _ => mid true (.inl rfl)) (fun q2 => Ev.ite (fun _ => mid true (.inl rfl)) (fun q3 => Ev.ite (fun _ => mid true (.inl rfl)) (fun q4 => Ev.ite (fun q5 => mid false (.inr ⟨rfl, by omega, by omega, by omega, by omega, fun h => by rw [q5] at h; cases h⟩)) (fun q5 => mid ((l.getD i z59).f1 != 0) ?_)))))
    by_cases e : (l.getD i z59).f1 = 0
    · exact .inr ⟨bne_eq_false_iff_eq.mpr e, by omega, by omega, by omega, by omega, fun _ => e⟩
    · exact .inl (bne_iff_ne.mpr e)
def timeP (t : Int) : Prop := 0 ≤ t ∧ t ≤ 253402300799
structure RightP (f i c u : Int) (l4 l5 : List Int) (l6 : List S59) : Prop where
  f0 : 1 ≤ f
  f1 : f ≤ 4
  i0 : 1 ≤ i
  i1 : i ≤ 1000
  c0 : 0 ≤ c
  c1 : c ≤ 10000
  u0 : u = -1 ∨ (timeP u ∧ c = 0)
  m : RisesP l4 1 12
  d : RisesP l5 (-31) 31
  dn : f ≤ 2 → l5 = []
  w : WeekP l6 (decide (3 ≤ f))
theorem right_ev (f i c u : Int) (l4 l5 : List Int) (l6 : List S59) (h4 : l4.length ≤ 1000000000) (h5 : l5.length ≤ 1000000000) (h6 : l6.length ≤ 1000000000) :
    ∃ b, Ev (fun k => recur_Right.f k f i c u l4 l5 l6) b ∧ (b = true ↔ RightP f i c u l4 l5 l6) := by
  classical
  refine ⟨decide (RightP f i c u l4 l5 l6), ?_, by simp⟩
  obtain ⟨b4, e4, p4⟩ := rises_ev l4 1 12 h4
  obtain ⟨b5, e5, p5⟩ := rises_ev l5 (-31) 31 h5
  have no : ∀ {P : Prop} [Decidable P], ¬ P → decide P = false := fun h => decide_eq_false h
  have J2 : ∀ x3 x77 : Bool, (x77 = true → ¬ RightP f i c u l4 l5 l6) → (x77 = false → (RightP f i c u l4 l5 l6 ↔ WeekP l6 x3)) → Ev (fun k => recur_Right.j2 k x3 x77 f i c u l4 l5 l6) (decide (RightP f i c u l4 l5 l6)) := by
    intro x3 x77 h1 h2
    refine Ev.succ ?_
    simp only [recur_Right.j2]
    cases x77 with
    | true => rw [no (h1 rfl)]; exact Ev.pos rfl (Ev.now _)
    | false =>
      obtain ⟨bw, ew, pw⟩ := right_l0_ev x3 l6 f i c u l4 l5 h6
      have : decide (RightP f i c u l4 l5 l6) = bw := by rw [Bool.eq_iff_iff, pw, decide_eq_true_eq, h2 rfl]
      rw [this]
      exact Ev.neg (by decide) ew
  have len5 : ((l5.length : Int) > 0) ↔ l5 ≠ [] := by
    cases l5 with
    | nil => simp
    | cons a b => simp

  have tail : ∀ x3 : Bool, x3 = decide (3 ≤ f) → 1 ≤ f → f ≤ 4 → 1 ≤ i → i ≤ 1000 → 0 ≤ c → c ≤ 10000 → (u = -1 ∨ (timeP u ∧ c = 0)) →
      Ev (fun k => (recur_rises.f k l4 1 12).bind fun t107 => (if t107 = true then ((recur_rises.f k l5 (-31) 31).bind fun t108 => (if t108 = true then (if x3 = true then (recur_Right.j2 k x3 false f i c u l4 l5 l6) else (recur_Right.j2 k x3 (decide ((l5.length : Int) > 0)) f i c u l4 l5 l6)) else (recur_Right.j2 k x3 true f i c u l4 l5 l6))) else (recur_Right.j2 k x3 true f i c u l4 l5 l6))) (decide (RightP f i c u l4 l5 l6)) := by
    intro x3 hx q1 q2 q3 q4 q5 q6 q7
    refine Ev.bind e4 ?_
    refine Ev.ite (fun r4 => ?_) (fun r4 => J2 _ _ (fun _ h => r4 (p4.mpr h.m)) (fun h => by cases h))
    refine Ev.bind e5 ?_
    refine Ev.ite (fun r5 => ?_) (fun r5 => J2 _ _ (fun _ h => r5 (p5.mpr h.d)) (fun h => by cases h))
    refine Ev.ite (fun r3 => J2 _ _ (fun h => by cases h) (fun _ => ?_)) (fun r3 => J2 _ _ (fun h hr => ?_) (fun h => ?_))
    · subst hx
      have := of_decide_eq_true r3
      exact ⟨fun h => h.w, fun h => ⟨q1, q2, q3, q4, q5, q6, q7, p4.mp r4, p5.mp r5, fun h2 => by omega, h⟩⟩
    · subst hx
      have hn := r3
      rw [decide_eq_true_eq] at hn
      exact (len5.mp (of_decide_eq_true h)) (hr.dn (by omega))
    · subst hx
      have hn := of_decide_eq_false h
      exact ⟨fun h => h.w, fun h => ⟨q1, q2, q3, q4, q5, q6, q7, p4.mp r4, p5.mp r5, fun h2 => Classical.byContradiction fun hc => hn (len5.mpr hc), h⟩⟩
  have J1 : ∀ x3 x41 : Bool, x3 = decide (3 ≤ f) → (x41 = true → ¬ RightP f i c u l4 l5 l6) → (x41 = false → 1 ≤ f ∧ f ≤ 4 ∧ 1 ≤ i ∧ i ≤ 1000 ∧ 0 ≤ c ∧ c ≤ 10000) → Ev (fun k => recur_Right.j1 k x3 x41 f i c u l4 l5 l6) (decide (RightP f i c u l4 l5 l6)) := by
    intro x3 x41 hx h1 h2
    refine Ev.succ ?_
    simp only [recur_Right.j1]
    refine Ev.ite (fun h => ?_) (fun h => ?_)
    · rw [no (h1 h)]; exact Ev.now _
    · obtain ⟨q1, q2, q3, q4, q5, q6⟩ := h2 (by simpa using h)
      refine Ev.ite (fun hu => ?_) (fun hu => ?_)
      · exact tail x3 hx q1 q2 q3 q4 q5 q6 (.inl hu)
      · have ht : when_Right.f u = some (decide (timeP u)) := by
          unfold when_Right.f timeP
          by_cases h : u ≥ 0
          · rw [if_pos h]; simp; omega
          · rw [if_neg h]; simp; omega
        rw [ht]
        simp only [Option.bind_some]
        refine Ev.ite (fun r1 => ?_) (fun r1 => J2 _ _ (fun _ h => ?_) (fun h => by cases h))
        · refine Ev.ite (fun r2 => ?_) (fun r2 => J2 _ _ (fun _ h => ?_) (fun h => by cases h))
          · exact tail x3 hx q1 q2 q3 q4 q5 q6 (.inr ⟨of_decide_eq_true r1, r2⟩)
          · rcases h.u0 with h | h
            · exact hu h
            · exact r2 h.2
        · rcases h.u0 with h | h
          · exact hu h
          · exact r1 (decide_eq_true h.1)
  have J0 : ∀ x3 : Bool, (1 ≤ f → f ≤ 4 → x3 = decide (3 ≤ f)) → Ev (fun k => recur_Right.j0 k x3 f i c u l4 l5 l6) (decide (RightP f i c u l4 l5 l6)) := by
    intro x3 hx
    have bad : ¬ RightP f i c u l4 l5 l6 → Ev (fun k => recur_Right.j1 k x3 true f i c u l4 l5 l6) (decide (RightP f i c u l4 l5 l6)) := by
      intro h
      refine Ev.succ ?_
      simp only [recur_Right.j1]
      rw [no h]; exact Ev.pos trivial (Ev.now _)
    refine Ev.succ ?_
    simp only [recur_Right.j0]
    refine Ev.ite (fun h => bad fun r => ?_) (fun s1 => Ev.ite (fun h => bad fun r => ?_) (fun s2 => Ev.ite (fun h => bad fun r => ?_) (fun s3 => Ev.ite (fun h => bad fun r => ?_) (fun s4 => Ev.ite (fun h => bad fun r => ?_) (fun s5 => J1 x3 _ (hx (by omega) (by omega)) (fun h r => ?_) (fun h => ?_))))))
    · have := r.f0; omega
    · have := r.f1; omega
    · have := r.i0; omega
    · have := r.i1; omega
    · have := r.c0; omega
    · have := r.c1; have := of_decide_eq_true h; omega
    · have := of_decide_eq_false h; omega
  unfold recur_Right.f
  refine Ev.ite (fun h => J0 _ (fun _ _ => by subst h; rfl)) (fun h => J0 _ (fun h1 h2 => ?_))
  by_cases e : f = 4
  · subst e; rfl
  · rw [beq_eq_false_iff_ne.mpr e]; symm; rw [decide_eq_false_iff_not]; omega
end Go.Proofs.YtfbmjonhohebiaaGreatDoor
end
section
namespace Go.Proofs.YtfbmjonhohebiaaGreatDoor
open Go.RowKit
theorem ret_bool {a b : Bool} (h : a = b) : Ending.returned (.bool a) = .returned (.bool b) := by rw [h]
theorem ret_int {k : IntKind} {a b : Int} (h : a = b) : Ending.returned (.int k a) = .returned (.int k b) := by rw [h]
set_option maxHeartbeats 400000 in
theorem when_leap (y : Int) (h0 : 0 ≤ y) (h1 : y ≤ 20000) (w : World) :
    Calls Tryz.prog 109 #[.int .i64 y] w fun e w' => e = .returned (.bool (Cal.leap y)) ∧ w = w' := by
  by_cases h4 : y % 4 = 0
  · by_cases h100 : y % 100 = 0
    · go_enter Tryz.func109, Tryz.ntmps109
      go_wp2
      go_ret
      exact ⟨ret_bool (by simp [Cal.leap, h4, h100]; try rfl), rfl⟩
    · go_enter Tryz.func109, Tryz.ntmps109
      go_wp2
      go_ret
      exact ⟨ret_bool (by simp [Cal.leap, h4, h100]; try rfl), rfl⟩
  · go_enter Tryz.func109, Tryz.ntmps109
    go_wp2
    go_ret
    exact ⟨ret_bool (by simp [Cal.leap, h4]; try rfl), rfl⟩
set_option maxHeartbeats 400000 in
theorem when_before (y : Int) (h0 : 1 ≤ y) (h1 : y ≤ 20000) (w : World) :
    Calls Tryz.prog 82 #[.int .i64 y] w fun e w' => e = .returned (.int .i64 (Cal.bef y)) ∧ w = w' := by
  go_enter Tryz.func82, Tryz.ntmps82
  go_wp2
  go_ret
  exact ⟨ret_int (by unfold Cal.bef; omega), rfl⟩
set_option maxHeartbeats 1000000 in
theorem when_month (y m : Int) (h0 : 0 ≤ y) (h1 : y ≤ 20000) (hm0 : 1 ≤ m) (hm1 : m ≤ 12) (w : World) :
    Calls Tryz.prog 83 #[.int .i64 y, .int .i64 m] w fun e w' => e = .returned (.int .i64 (Cal.mlen y m)) ∧ Below w.heap.size w w' := by
  by_cases h2 : m = 2
  · subst h2
    by_cases hl : Cal.leap y = true
    · go_enter Tryz.func83, Tryz.ntmps83
      go_wp2_with (go_at_call 109; refine (when_leap _ h0 h1 _).mono ?_; rintro e w' ⟨rfl, rfl⟩)
      go_ret
      exact ⟨ret_int (by simp [Cal.mlen, hl]), (Below.refl _ _).alloc (Nat.le_refl _) _⟩
    · have hl' : Cal.leap y = false := by simpa using hl
      go_enter Tryz.func83, Tryz.ntmps83
      go_wp2_with (go_at_call 109; refine (when_leap _ h0 h1 _).mono ?_; rintro e w' ⟨rfl, rfl⟩)
      go_ret
      exact ⟨ret_int (by simp [Cal.mlen, hl']), (Below.refl _ _).alloc (Nat.le_refl _) _⟩
  · have h : m = 1 ∨ m = 3 ∨ m = 4 ∨ m = 5 ∨ m = 6 ∨ m = 7 ∨ m = 8 ∨ m = 9 ∨ m = 10 ∨ m = 11 ∨ m = 12 := by omega
    clear hm0 hm1 h2
    rcases h with rfl | rfl | rfl | rfl | rfl | rfl | rfl | rfl | rfl | rfl | rfl <;>
    ( go_enter Tryz.func83, Tryz.ntmps83
      go_wp2
      go_ret
      exact ⟨ret_int (by simp [Cal.mlen]), (Below.refl _ _).alloc (Nat.le_refl _) _⟩)
end Go.Proofs.YtfbmjonhohebiaaGreatDoor
end
section
set_option linter.unusedVariables false
set_option linter.unusedSimpArgs false
namespace Go.Proofs.YtfbmjonhohebiaaGreatDoor
open Go.RowKit
theorem ret2_ii {k k' : IntKind} {a b a' b' : Int} (h : a = b) (h' : a' = b') : Ending.returned (.tuple #[.int k a, .int k' a']) = .returned (.tuple #[.int k b, .int k' b']) := by rw [h, h']
theorem mlen_le31 (y m : Int) : Cal.mlen y m ≤ 31 := (Cal.mlen_bd y m).2
theorem mlen_ge28 (y m : Int) : 28 ≤ Cal.mlen y m := (Cal.mlen_bd y m).1
theorem bef_rng {y : Int} (h0 : 1970 ≤ y) (h1 : y ≤ 10000) : 0 ≤ Cal.bef y ∧ Cal.bef y ≤ 2932897 := by
  have a := Cal.bef_mono h0
  have b := Cal.bef_mono h1
  rw [Cal.bef_1970] at a; rw [Cal.bef_10000] at b
  exact ⟨a, b⟩
theorem cum_zero (y : Int) : Cal.cum y 0 = 0 := by simp [Cal.cum]
set_option maxHeartbeats 2000000 in
theorem when_Days_ok (y d : Int) (m : Nat) (h0 : 1970 ≤ y) (h1 : y ≤ 9999) (hm0 : 1 ≤ m) (hm1 : m ≤ 12) (hd0 : 1 ≤ d) (hd1 : d ≤ Cal.mlen y m) (w : World) :
    Calls Tryz.prog 102 #[.int .i64 y, .int .i64 m, .int .i64 d] w fun e w' => e = .returned (.tuple #[.int .i64 (Cal.bef y + Cal.cum y m + d - 1), .int .i64 0]) ∧ Below w.heap.size w w' := by
  obtain ⟨b0, b1⟩ := bef_rng h0 (by omega)
  have hl := mlen_le31 y m
  go_enter Tryz.func102, Tryz.ntmps102
  go_wp2_with (first
    | (go_at_call 83; refine (when_month y _ (by omega) (by omega) (by omega) (by omega) _).mono ?_; rintro e w1 ⟨rfl, hb1⟩)
    | (go_at_call 82; refine (when_before y (by omega) (by omega) _).mono ?_; rintro e w2 ⟨rfl, rfl⟩))
  go_loopw [8, 41] (fun n i wr => ∃ k : Nat, k ≤ m ∧ i = .int .i64 k ∧ n = .int .i64 (Cal.bef y + d - 1 + Cal.cum y k) ∧ Below w.heap.size w wr) (fun _ i _ => m - (intOf i).toNat)
  case atStart => exact ⟨0, Nat.zero_le _, rfl, by simp [cum_zero], hb1⟩
  case round =>
    obtain ⟨k, hk, rfl, rfl, hbr⟩ := hrel
    clear hb1
    by_cases hlt : k < m
    · by_cases h0k : 0 < k
      · have cs := Cal.cum_succ y k (by omega) (by omega)
        have cb := Cal.cum_bd y k (by omega) (by omega)
        have yb := Cal.ylen_bd y
        have ml := mlen_le31 y k
        have ml0 := mlen_ge28 y k
        have CS := Lib.hid cs; clear cs
        go_wp2_with (go_at_call 83; refine (when_month y _ (by omega) (by omega) (by omega) (by omega) _).mono ?_; rintro e w2 ⟨rfl, hb2⟩)
        go_roundw
        case rel => exact ⟨k + 1, by omega, by go_num, by rw [show ((k + 1 : Nat) : Int) = (k : Int) + 1 by omega, CS.out]; go_num, hbr.trans (hb2.mono hbr.size)⟩
        case measure => simp [intOf]; omega
      · obtain rfl : k = 0 := by omega
        go_wp2
        go_roundw
        case rel => exact ⟨1, by omega, by go_num, by simp [Cal.cum], hbr⟩
        case measure => simp [intOf]; omega
    · obtain rfl : k = m := by omega
      go_wp2
      go_ret2
      exact ⟨ret2_ii (by omega) rfl, hbr⟩
set_option maxHeartbeats 2000000 in

theorem when_Days_over (y d : Int) (m : Nat) (h0 : 1970 ≤ y) (h1 : y ≤ 9999) (hm0 : 1 ≤ m) (hm1 : m ≤ 12) (hd0 : 1 ≤ d) (hd2 : d ≤ 2000000) (hd1 : Cal.mlen y m < d) (w : World) :
    Calls Tryz.prog 102 #[.int .i64 y, .int .i64 m, .int .i64 d] w fun e w' => e = .returned (.tuple #[.int .i64 0, .int .i64 110]) ∧ Below w.heap.size w w' := by
  have hl := mlen_le31 y m
  go_enter Tryz.func102, Tryz.ntmps102
  go_wp2_with (go_at_call 83; refine (when_month y _ (by omega) (by omega) (by omega) (by omega) _).mono ?_; rintro e w1 ⟨rfl, hb1⟩)
  go_ret2
  exact ⟨rfl, hb1⟩
set_option maxHeartbeats 2000000 in
theorem when_Civil (n : Int) (h0 : 0 ≤ n) (h1 : n ≤ 2932896) (w : World) :
    Calls Tryz.prog 55 #[.int .i64 n] w fun e w' => (∃ y m d, Cal.IsCivil n y m d ∧ e = .returned (.tuple #[.int .i64 y, .int .i64 m, .int .i64 d, .int .i64 0])) ∧ Below w.heap.size w w' := by
  have g0 := Cal.bef_guess n h0 h1
  go_enter Tryz.func55, Tryz.ntmps55
  go_wp2
  go_loop [6] (fun t => ∃ y : Int, 1970 ≤ y ∧ y ≤ 9999 ∧ Cal.bef y ≤ n ∧ t = .int .i64 y) (fun t => (9999 - intOf t).toNat)
  case atStart => exact ⟨_, by omega, by omega, g0, rfl⟩
  case round =>
    clear g0
    obtain ⟨y, hy0, hy1, hy2, rfl⟩ := hrel
    by_cases hc : y < 9999 ∧ Cal.bef (y + 1) ≤ n
    · obtain ⟨hlt, hd⟩ := hc
      go_wp2_with (go_at_call 82; refine (when_before _ (by omega) (by omega) _).mono ?_; rintro e w' ⟨rfl, rfl⟩)
      go_round
      case rel => exact ⟨y + 1, by omega, by omega, hd, rfl⟩
      case measure => simp [intOf]; omega
    · have hz : n < Cal.bef (y + 1) := by
        by_cases e : y = 9999
        · subst e; have := Cal.bef_10000; simp at this ⊢; omega
        · omega
      clear hc
      have hs := Cal.bef_succ y
      have hyl := Cal.ylen_bd y
      have hbr := bef_rng hy0 (by omega)
      have c13 := Cal.cum_13 y
      have HS : Hid (Cal.bef (y + 1) = Cal.bef y + Cal.ylen y) := Lib.hid hs
      have H13 := Lib.hid c13
      have hlo : n - Cal.bef y < 367 := by omega
      clear hs c13
      by_cases hlt : y < 9999
      all_goals
        go_wp2_with (go_at_call 82; refine (when_before _ (by omega) (by omega) _).mono ?_; rintro e w' ⟨rfl, rfl⟩)
        go_loopw [7, 8] (fun r t wr => ∃ m : Nat, 1 ≤ m ∧ m ≤ 12 ∧ t = .int .i64 m ∧ 0 ≤ n - Cal.bef y - Cal.cum y m ∧ r = .int .i64 (n - Cal.bef y - Cal.cum y m) ∧ Below w.heap.size w wr) (fun _ t _ => (12 - intOf t).toNat)
        case atStart => exact ⟨1, by omega, by omega, rfl, by simp [Cal.cum]; omega, by simp [Cal.cum], Below.refl _ _⟩
        case round =>
          obtain ⟨m, hm0, hm1, rfl, hr0, rfl, hbl⟩ := hrel
          have cs := Cal.cum_succ y m (by omega) (by omega)
          have CS := Lib.hid cs
          have ml := mlen_le31 y m
          have ml0 := mlen_ge28 y m
          obtain ⟨cb0, cb1⟩ := Cal.cum_bd y m (by omega) (by omega)
          by_cases hc : Cal.mlen y m ≤ n - Cal.bef y - Cal.cum y m
          · have hm : m ≠ 12 := by
              intro e
              subst e
              have h13 : Cal.cum y ((12 : Nat) + 1 : Int) = Cal.cum y 13 := rfl
              have a1 := HS.out
              have a2 := H13.out
              have a3 : ((12 : Nat) : Int) = 12 := rfl
              rw [a3] at cs hc
              rw [show (12 : Int) + 1 = 13 from rfl] at cs
              omega
            have hmlt : m < 12 := by omega
            clear hm cs
            go_wp2_with (go_at_call 83; refine (when_month y _ (by omega) (by omega) (by omega) (by omega) _).mono ?_; rintro e w2 ⟨rfl, hb2⟩)
            rename_i w3 hb3
            go_roundw
            case rel => exact ⟨m + 1, by omega, by omega, by go_num, by rw [show ((m + 1 : Nat) : Int) = (m : Int) + 1 by omega, CS.out]; omega, by rw [show ((m + 1 : Nat) : Int) = (m : Int) + 1 by omega, CS.out]; go_num, (hbl.trans (hb3.mono hbl.size)).trans (hb2.mono (Nat.le_trans hbl.size hb3.size))⟩
            case measure => simp [intOf]; omega
          · have hv : n - Cal.bef y - Cal.cum y m < Cal.mlen y m := by omega
            clear cs hc
            go_wp2_with (go_at_call 83; refine (when_month y _ (by omega) (by omega) (by omega) (by omega) _).mono ?_; rintro e w2 ⟨rfl, hb2⟩)
            refine bodyPost_ret (v := .tuple #[.int .i64 y, .int .i64 m, .int .i64 (n - Cal.bef y - Cal.cum y m + 1), .int .i64 0]) (by simp [results, Tryz.results55, go_sem]) rfl ⟨⟨y, m, _, ⟨by omega, by omega, by omega, by omega, ?_, ?_, ?_⟩, rfl⟩, hbl.trans (hb2.mono hbl.size)⟩ <;> omega
end Go.Proofs.YtfbmjonhohebiaaGreatDoor
end
section
set_option linter.unusedVariables false
set_option linter.unusedSimpArgs false
namespace Go.Proofs.YtfbmjonhohebiaaGreatDoor
open Go.RowKit Go.Proofs.YtfbmjonhohebiaaGreatDoorW.PrintWords Go.Proofs.YtfbmjonhohebiaaGreatDoorW.PrintLast Go.Proofs.YtfbmjonhohebiaaGreatDoorW.PrintMore PRecurExpands
theorem bcell {W w1 : World} (hb : Below W.heap.size W w1) : (∀ b o, b < W.heap.size → w1.cell? ⟨b, o, none⟩ = W.cell? ⟨b, o, none⟩) ∧ (∀ b o, b < W.heap.size → w1.frozen? ⟨b, o, none⟩ = W.frozen? ⟨b, o, none⟩) :=
  ⟨fun b o h => hb.cell (p := ⟨b, o, none⟩) h, fun b o h => hb.frozen (p := ⟨b, o, none⟩) h⟩
set_option maxHeartbeats 2000000 in
theorem recur_length (y : Int) (m : Nat) (h0 : 1970 ≤ y) (h1 : y ≤ 9999) (hm0 : 1 ≤ m) (hm1 : m ≤ 12) (w : World) :
    Calls Tryz.prog 86 #[.int .i64 y, .int .i64 m] w fun e w' => e = .returned (.int .i64 (Cal.mlen y m)) ∧ Below w.heap.size w w' := by
  have ml := mlen_le31 y m
  have ml0 := mlen_ge28 y m
  go_enter Tryz.func86, Tryz.ntmps86
  go_wp2
  go_loopw [5] (fun d wr => ∃ x : Int, 28 ≤ x ∧ x ≤ 31 ∧ Cal.mlen y m ≤ x ∧ d = .int .i64 x ∧ Below w.heap.size w wr) (fun d _ => (intOf d).toNat)
  case atStart => exact ⟨31, by omega, by omega, by omega, rfl, Below.refl _ _⟩
  case round =>
    obtain ⟨x, hx0, hx1, hx2, rfl, hb⟩ := hrel
    by_cases h28 : 28 < x
    · by_cases hlt : Cal.mlen y m < x
      · go_wp2_with (go_at_call 102; refine (when_Days_over y x m h0 h1 hm0 hm1 (by omega) (by omega) hlt _).mono ?_; rintro e w2 ⟨rfl, hb2⟩)
        go_roundw
        case rel => exact ⟨x - 1, by omega, by omega, by omega, rfl, hb.trans (hb2.mono hb.size)⟩
        case measure => simp [intOf]; omega
      · have hle : x ≤ Cal.mlen y m := by omega
        go_wp2_with (go_at_call 102; refine (when_Days_ok y x m h0 h1 hm0 hm1 (by omega) hle _).mono ?_; rintro e w2 ⟨rfl, hb2⟩)
        go_ret
        exact ⟨ret_int (by omega), hb.trans (hb2.mono hb.size)⟩
    · go_wp2
      go_ret
      exact ⟨ret_int (by omega), hb⟩
def fitS (sd sf sb : Int) (x : S59) : Bool := x.f0 == sd && (x.f1 == 0 || x.f1 == sf || x.f1 == sb)
set_option maxHeartbeats 2000000 in
theorem recur_fits (sd sf sb wd wo : Int) (w : World) :
    Calls Tryz.prog 88 #[.agg #[.int .i64 sd, .int .i64 sf, .int .i64 sb], .agg #[.int .i64 wd, .int .i64 wo]] w fun e w' => e = .returned (.bool (fitS sd sf sb ⟨wd, wo⟩)) ∧ Below w.heap.size w w' := by
  have fin : Below w.heap.size w ((w.alloc (.cells #[.int .i64 sd, .int .i64 sf, .int .i64 sb] 121)).alloc (.cells #[.int .i64 wd, .int .i64 wo] 59)) :=
    ((Below.refl _ _).alloc (Nat.le_refl _) _).alloc (by simp) _
  by_cases c1 : (wd == sd) = true
  · by_cases c2 : (wo == 0) = true
    · have hfin : fitS sd sf sb ⟨wd, wo⟩ = true := by simp [fitS, c1, c2]
      have HF := Lib.hid hfin
      clear hfin
      go_enter Tryz.func88, Tryz.ntmps88
      go_wp2
      go_ret
      exact ⟨ret_bool HF.out.symm, fin⟩
    · have c2' : (wo == 0) = false := by simpa using c2
      by_cases c3 : (wo == sf) = true
      · have hfin : fitS sd sf sb ⟨wd, wo⟩ = true := by simp [fitS, c1, c2', c3]
        have HF := Lib.hid hfin
        clear hfin c2
        go_enter Tryz.func88, Tryz.ntmps88
        go_wp2
        go_ret
        exact ⟨ret_bool HF.out.symm, fin⟩
      · have c3' : (wo == sf) = false := by simpa using c3
        have hfin : fitS sd sf sb ⟨wd, wo⟩ = (wo == sb) := by simp [fitS, c1, c2', c3']
        have HF := Lib.hid hfin
        clear hfin c2 c3
        go_enter Tryz.func88, Tryz.ntmps88
        go_wp2
        go_ret
        exact ⟨ret_bool HF.out.symm, fin⟩
  · have c1' : (wd == sd) = false := by simpa using c1
    have hfin : fitS sd sf sb ⟨wd, wo⟩ = false := by simp [fitS, c1']
    have HF := Lib.hid hfin
    clear hfin c1
    go_enter Tryz.func88, Tryz.ntmps88
    go_wp2
    go_ret
    exact ⟨ret_bool HF.out.symm, fin⟩
theorem fits_none (sd sf sb : Int) (l : List S59) (x : Int) (hx : (l.length : Int) ≤ x) (h : ∀ j : Int, 0 ≤ j → j < x → fitS sd sf sb (rd_T59 l j) = false) : l.any (fitS sd sf sb) = false := by
  rw [List.any_eq_false]
  intro a ha
  obtain ⟨i, hi, rfl⟩ := List.getElem_of_mem ha
  have := h i (by omega) (by omega)
  unfold rd_T59 at this
  simpa [hi] using this
theorem fits_some (sd sf sb : Int) (l : List S59) (x : Int) (h0 : 0 ≤ x) (hx : x < (l.length : Int)) (h : fitS sd sf sb (rd_T59 l x) = true) : l.any (fitS sd sf sb) = true := by
  rw [List.any_eq_true]
  have hi : x.toNat < l.length := by omega
  refine ⟨l[x.toNat], List.getElem_mem _, ?_⟩
  unfold rd_T59 at h
  simpa [hi] using h
set_option maxHeartbeats 2000000 in
theorem recur_IndexFunc (sd sf sb : Int) (A : Option Addr) (c : Nat) (l : List S59) (w : World) (hr : Kd.C k59 w A l.length l) (hc : l.length ≤ c) (hm : l.length ≤ 1000000000) :
    Calls Tryz.prog 111 #[.slice A l.length c, .func (.func 88) #[.agg #[.int .i64 sd, .int .i64 sf, .int .i64 sb]] #[]] w fun e w' =>
      (∃ r : Int, e = .returned (.int .i64 r) ∧ decide (0 ≤ r) = l.any (fitS sd sf sb)) ∧ Below w.heap.size w w' := by
  have HR := Aside0.mk hr
  clear hr
  go_enter Tryz.func111, Tryz.ntmps111
  go_wp2
  go_loopw [8] (fun i wr => ∃ x : Int, 0 ≤ x ∧ x ≤ l.length ∧ i = .int .i64 x ∧ Aside0 (∀ j : Int, 0 ≤ j → j < x → fitS sd sf sb (rd_T59 l j) = false) ∧ Below w.heap.size w wr) (fun i _ => l.length - (intOf i).toNat)
  case atStart => exact ⟨0, by omega, by omega, rfl, ⟨fun j h1 h2 => by omega⟩, Below.refl _ _⟩
  case round =>
    obtain ⟨x, hx0, hx1, rfl, hno, hb⟩ := hrel
    by_cases hlt : x < (l.length : Int)
    · obtain ⟨ad, e, hx_0, hx_1⟩ := at_T59 HR.out x hx0 hlt
      cases e
      replace hx_0 := (hb.cell (World.block_lt_of_cell? w _ hx_0)).trans hx_0
      replace hx_1 := (hb.cell (World.block_lt_of_cell? w _ hx_1)).trans hx_1
      have hw : wrap64 (x + 1) = x + 1 := by unfold wrap64; omega
      have HW := Lib.hid hw
      clear hw
      go_wp2_with (go_at_call 88; refine (recur_fits sd sf sb _ _ _).mono ?_; rintro e w2 ⟨rfl, hb2⟩)
      · have hfit : fitS sd sf sb ⟨(rd_T59 l x).f0, (rd_T59 l x).f1⟩ = true := by assumption
        go_ret
        exact ⟨⟨x, rfl, by rw [fits_some sd sf sb l x hx0 hlt hfit]; simp [hx0]⟩, hb.trans (hb2.mono hb.size)⟩
      · have hfit : fitS sd sf sb ⟨(rd_T59 l x).f0, (rd_T59 l x).f1⟩ = false := by assumption
        go_roundw
        case rel => exact ⟨x + 1, by omega, by omega, rfl, ⟨fun j h1 h2 => if e : j = x then by rw [e]; exact hfit else hno.out j h1 (by omega)⟩, hb.trans (hb2.mono hb.size)⟩
        case measure => simp [intOf]; omega
    · go_wp2
      go_ret
      exact ⟨⟨-1, rfl, by rw [fits_none sd sf sb l x (by omega) hno.out]; rfl⟩, hb⟩
set_option maxHeartbeats 2000000 in
theorem recur_ContainsFunc (sd sf sb : Int) (A : Option Addr) (c : Nat) (l : List S59) (w : World) (hr : Kd.C k59 w A l.length l) (hc : l.length ≤ c) (hm : l.length ≤ 1000000000) :
    Calls Tryz.prog 87 #[.slice A l.length c, .func (.func 88) #[.agg #[.int .i64 sd, .int .i64 sf, .int .i64 sb]] #[]] w fun e w' =>
      e = .returned (.bool (l.any (fitS sd sf sb))) ∧ Below w.heap.size w w' := by
  have HR := Aside0.mk hr
  clear hr
  go_enter Tryz.func87, Tryz.ntmps87
  go_wp2_with (go_at_call 111; refine (recur_IndexFunc sd sf sb A c l _ HR.out hc hm).mono ?_; rintro e w2 ⟨⟨r, rfl, hd⟩, hb2⟩; have HD := Lib.hid hd; clear hd)
  go_ret
  exact ⟨ret_bool HD.out, hb2⟩
end Go.Proofs.YtfbmjonhohebiaaGreatDoor
end
section
set_option linter.unusedVariables false
set_option linter.unusedSimpArgs false
namespace Go.Proofs.YtfbmjonhohebiaaGreatDoor
open Go.RowKit Go.Proofs.YtfbmjonhohebiaaGreatDoorW.PrintWords Go.Proofs.YtfbmjonhohebiaaGreatDoorW.PrintLast Go.Proofs.YtfbmjonhohebiaaGreatDoorW.PrintMore PRecurExpands
def hasI (l : List Int) (a : Int) : Bool := l.contains a
theorem contains_int (A : Option Addr) (c : Nat) (l : List Int) (a : Int) (w : World) (hr : Kd.C (Kd.int .i64) w A l.length l) (hc : l.length ≤ c) (hl : l.length ≤ 1000000000) :
    Calls Tryz.prog 57 #[.slice A l.length c, .int .i64 a] w fun e w' => e = .returned (.bool (hasI l a)) ∧ Below w.heap.size w w' := by
  obtain ⟨k, hk⟩ := (contains_int_ev l a hl).rounds
  exact (slices_Contains_int_int.calls k A c l a _ w hr hc hk).mono fun e w' h => ⟨h.1, h.2.below⟩
def mayS (l5 : List Int) (l6 : List S59) (n d wd first : Int) : Bool :=
  if l5 = [] ∧ l6 = [] then d == first
  else if l5 ≠ [] ∧ hasI l5 d = false ∧ hasI l5 (d - n - 1) = false then false
  else l6.isEmpty || l6.any (fitS wd ((d + 6) / 7) (-((n - d) / 7 + 1)))
set_option maxHeartbeats 4000000 in
theorem recur_may (a0 a1 a2 a3 : Int) (A4 A5 A6 : Option Addr) (c4 c5 c6 : Nat) (l4 l5 : List Int) (l6 : List S59) (y d wd first : Int) (m : Nat) (w : World)
    (hr5 : Kd.C (Kd.int .i64) w A5 l5.length l5) (hc5 : l5.length ≤ c5) (hr6 : Kd.C k59 w A6 l6.length l6) (hc6 : l6.length ≤ c6) (hl5 : l5.length ≤ 1000000000) (hl6 : l6.length ≤ 1000000000)
    (h0 : 1970 ≤ y) (h1 : y ≤ 9999) (hm0 : 1 ≤ m) (hm1 : m ≤ 12) (hd0 : 1 ≤ d) (hd1 : d ≤ Cal.mlen y m) :
    Calls Tryz.prog 59 #[.agg #[.int .i64 a0, .int .i64 a1, .int .i64 a2, .int .i64 a3, .slice A4 l4.length c4, .slice A5 l5.length c5, .slice A6 l6.length c6], .int .i64 y, .int .i64 m, .int .i64 d, .int .i64 wd, .int .i64 first] w fun e w' =>
      e = .returned (.bool (mayS l5 l6 (Cal.mlen y m) d wd first)) ∧ Below w.heap.size w w' := by
  have HR5 := Aside0.mk hr5
  have HR6 := Aside0.mk hr6
  clear hr5 hr6
  have B0 := Aside0.mk ((Below.refl w.heap.size w).alloc (Nat.le_refl _) (.cells #[.int .i64 a0, .int .i64 a1, .int .i64 a2, .int .i64 a3, .slice A4 l4.length c4, .slice A5 l5.length c5, .slice A6 l6.length c6] 25))
  have ml := mlen_le31 y m
  have ml0 := mlen_ge28 y m
  have lt : ∀ {α : Type} {l : List α}, l ≠ [] → 0 < l.length := fun h => List.length_pos_iff.mpr h
  have nz : ∀ {α : Type} {l : List α}, l ≠ [] → ((l.length : Int) == 0) = false := fun h => by have := List.length_pos_iff.mpr h; rw [beq_eq_false_iff_ne]; omega
  have emp : ∀ {α : Type} {l : List α}, l ≠ [] → l.isEmpty = false := fun {α l} h => by cases l with | nil => exact absurd rfl h | cons a b => rfl
  by_cases e5 : l5 = []
  · by_cases e6 : l6 = []
    · have hfin : mayS l5 l6 (Cal.mlen y m) d wd first = (d == first) := by unfold mayS; rw [if_pos ⟨e5, e6⟩]
      have HF := Lib.hid hfin
      clear hfin lt nz emp
      subst e5; subst e6
      go_enter Tryz.func59, Tryz.ntmps59
      go_wp2_with (first
      | (go_at_call 86; refine (recur_length y m h0 h1 hm0 hm1 _).mono ?_; rintro e w1 ⟨rfl, hb1⟩; obtain ⟨hc1, hf1⟩ := bcell hb1; have hz1 : w.heap.size < w1.heap.size := (by have := hb1.size; simp at this; omega); have HB := Aside0.mk (B0.out.trans (hb1.mono (by simp))); clear hb1)
      | (go_at_call 57; refine (contains_int A5 c5 l5 _ _ (Kd.C_below HR5.out HB.out) hc5 hl5).mono ?_; rintro e w2 ⟨rfl, hb2⟩; obtain ⟨hc2, hf2⟩ := bcell hb2; have hz2 : w.heap.size < w2.heap.size := (Nat.lt_of_lt_of_le (by assumption) hb2.size); have HB' := Aside0.mk (HB.out.trans (hb2.mono HB.out.size)); clear HB hb2; have HB := HB'; clear HB')
      | (go_at_call 87; refine (recur_ContainsFunc _ _ _ A6 c6 l6 _ (Kd.C_below HR6.out (by first | exact HB.out | exact HB.out.alloc HB.out.size _)) hc6 hl6).mono ?_; rintro e w4 ⟨rfl, hb4⟩; have HC := Aside0.mk hb4; clear hb4))
      go_ret
      exact ⟨ret_bool HF.out.symm, HB.out⟩
    · have hfin : mayS l5 l6 (Cal.mlen y m) d wd first = l6.any (fitS wd ((d + 6) / 7) (-((Cal.mlen y m - d) / 7 + 1))) := by unfold mayS; rw [if_neg (fun h => e6 h.2), if_neg (fun h => h.1 e5), emp e6, Bool.false_or]
      have HF := Lib.hid hfin
      have p6 := lt e6
      have z6 := nz e6
      clear hfin lt nz emp
      subst e5
      go_enter Tryz.func59, Tryz.ntmps59
      go_wp2_with (first
      | (go_at_call 86; refine (recur_length y m h0 h1 hm0 hm1 _).mono ?_; rintro e w1 ⟨rfl, hb1⟩; obtain ⟨hc1, hf1⟩ := bcell hb1; have hz1 : w.heap.size < w1.heap.size := (by have := hb1.size; simp at this; omega); have HB := Aside0.mk (B0.out.trans (hb1.mono (by simp))); clear hb1)
      | (go_at_call 57; refine (contains_int A5 c5 l5 _ _ (Kd.C_below HR5.out HB.out) hc5 hl5).mono ?_; rintro e w2 ⟨rfl, hb2⟩; obtain ⟨hc2, hf2⟩ := bcell hb2; have hz2 : w.heap.size < w2.heap.size := (Nat.lt_of_lt_of_le (by assumption) hb2.size); have HB' := Aside0.mk (HB.out.trans (hb2.mono HB.out.size)); clear HB hb2; have HB := HB'; clear HB')
      | (go_at_call 87; refine (recur_ContainsFunc _ _ _ A6 c6 l6 _ (Kd.C_below HR6.out (by first | exact HB.out | exact HB.out.alloc HB.out.size _)) hc6 hl6).mono ?_; rintro e w4 ⟨rfl, hb4⟩; have HC := Aside0.mk hb4; clear hb4))
      go_ret
      exact ⟨ret_bool HF.out.symm, (HB.out.alloc HB.out.size _).trans (HC.out.mono (by have := HB.out.size; simp; omega))⟩
  · have p5 := lt e5
    have z5 := nz e5
    have q5 : decide (0 < l5.length) = true := decide_eq_true p5
    by_cases k1 : hasI l5 d = true
    · by_cases e6 : l6 = []
      · have hfin : mayS l5 l6 (Cal.mlen y m) d wd first = true := by unfold mayS; rw [if_neg (fun h => e5 h.1), if_neg (fun h => by rw [k1] at h; exact absurd h.2.1 (by decide)), e6]; rfl
        have HF := Lib.hid hfin
        have K1 := k1
        clear hfin lt nz emp k1
        subst e6
        go_enter Tryz.func59, Tryz.ntmps59
        go_wp2_with (first
      | (go_at_call 86; refine (recur_length y m h0 h1 hm0 hm1 _).mono ?_; rintro e w1 ⟨rfl, hb1⟩; obtain ⟨hc1, hf1⟩ := bcell hb1; have hz1 : w.heap.size < w1.heap.size := (by have := hb1.size; simp at this; omega); have HB := Aside0.mk (B0.out.trans (hb1.mono (by simp))); clear hb1)
      | (go_at_call 57; refine (contains_int A5 c5 l5 _ _ (Kd.C_below HR5.out HB.out) hc5 hl5).mono ?_; rintro e w2 ⟨rfl, hb2⟩; obtain ⟨hc2, hf2⟩ := bcell hb2; have hz2 : w.heap.size < w2.heap.size := (Nat.lt_of_lt_of_le (by assumption) hb2.size); have HB' := Aside0.mk (HB.out.trans (hb2.mono HB.out.size)); clear HB hb2; have HB := HB'; clear HB')
      | (go_at_call 87; refine (recur_ContainsFunc _ _ _ A6 c6 l6 _ (Kd.C_below HR6.out (by first | exact HB.out | exact HB.out.alloc HB.out.size _)) hc6 hl6).mono ?_; rintro e w4 ⟨rfl, hb4⟩; have HC := Aside0.mk hb4; clear hb4))
        go_ret
        exact ⟨ret_bool HF.out.symm, HB.out⟩
      · have hfin : mayS l5 l6 (Cal.mlen y m) d wd first = l6.any (fitS wd ((d + 6) / 7) (-((Cal.mlen y m - d) / 7 + 1))) := by unfold mayS; rw [if_neg (fun h => e6 h.2), if_neg (fun h => by rw [k1] at h; exact absurd h.2.1 (by decide)), emp e6, Bool.false_or]
        have HF := Lib.hid hfin
        have p6 := lt e6
        have z6 := nz e6
        clear hfin lt nz emp
        go_enter Tryz.func59, Tryz.ntmps59
        go_wp2_with (first
      | (go_at_call 86; refine (recur_length y m h0 h1 hm0 hm1 _).mono ?_; rintro e w1 ⟨rfl, hb1⟩; obtain ⟨hc1, hf1⟩ := bcell hb1; have hz1 : w.heap.size < w1.heap.size := (by have := hb1.size; simp at this; omega); have HB := Aside0.mk (B0.out.trans (hb1.mono (by simp))); clear hb1)
      | (go_at_call 57; refine (contains_int A5 c5 l5 _ _ (Kd.C_below HR5.out HB.out) hc5 hl5).mono ?_; rintro e w2 ⟨rfl, hb2⟩; obtain ⟨hc2, hf2⟩ := bcell hb2; have hz2 : w.heap.size < w2.heap.size := (Nat.lt_of_lt_of_le (by assumption) hb2.size); have HB' := Aside0.mk (HB.out.trans (hb2.mono HB.out.size)); clear HB hb2; have HB := HB'; clear HB')
      | (go_at_call 87; refine (recur_ContainsFunc _ _ _ A6 c6 l6 _ (Kd.C_below HR6.out (by first | exact HB.out | exact HB.out.alloc HB.out.size _)) hc6 hl6).mono ?_; rintro e w4 ⟨rfl, hb4⟩; have HC := Aside0.mk hb4; clear hb4))
        go_ret
        exact ⟨ret_bool HF.out.symm, (HB.out.alloc HB.out.size _).trans (HC.out.mono (by have := HB.out.size; simp; omega))⟩
    · have k1' : hasI l5 d = false := by simpa using k1
      clear k1
      by_cases k2 : hasI l5 (d - Cal.mlen y m - 1) = true
      · by_cases e6 : l6 = []
        · have hfin : mayS l5 l6 (Cal.mlen y m) d wd first = true := by unfold mayS; rw [if_neg (fun h => e5 h.1), if_neg (fun h => by rw [k2] at h; exact absurd h.2.2 (by decide)), e6]; rfl
          have HF := Lib.hid hfin
          clear hfin lt nz emp
          subst e6
          go_enter Tryz.func59, Tryz.ntmps59
          go_wp2_with (first
      | (go_at_call 86; refine (recur_length y m h0 h1 hm0 hm1 _).mono ?_; rintro e w1 ⟨rfl, hb1⟩; obtain ⟨hc1, hf1⟩ := bcell hb1; have hz1 : w.heap.size < w1.heap.size := (by have := hb1.size; simp at this; omega); have HB := Aside0.mk (B0.out.trans (hb1.mono (by simp))); clear hb1)
      | (go_at_call 57; refine (contains_int A5 c5 l5 _ _ (Kd.C_below HR5.out HB.out) hc5 hl5).mono ?_; rintro e w2 ⟨rfl, hb2⟩; obtain ⟨hc2, hf2⟩ := bcell hb2; have hz2 : w.heap.size < w2.heap.size := (Nat.lt_of_lt_of_le (by assumption) hb2.size); have HB' := Aside0.mk (HB.out.trans (hb2.mono HB.out.size)); clear HB hb2; have HB := HB'; clear HB')
      | (go_at_call 87; refine (recur_ContainsFunc _ _ _ A6 c6 l6 _ (Kd.C_below HR6.out (by first | exact HB.out | exact HB.out.alloc HB.out.size _)) hc6 hl6).mono ?_; rintro e w4 ⟨rfl, hb4⟩; have HC := Aside0.mk hb4; clear hb4))
          go_ret
          exact ⟨ret_bool HF.out.symm, HB.out⟩
        · have hfin : mayS l5 l6 (Cal.mlen y m) d wd first = l6.any (fitS wd ((d + 6) / 7) (-((Cal.mlen y m - d) / 7 + 1))) := by unfold mayS; rw [if_neg (fun h => e6 h.2), if_neg (fun h => by rw [k2] at h; exact absurd h.2.2 (by decide)), emp e6, Bool.false_or]
          have HF := Lib.hid hfin
          have p6 := lt e6
          have z6 := nz e6
          clear hfin lt nz emp
          go_enter Tryz.func59, Tryz.ntmps59
          go_wp2_with (first
      | (go_at_call 86; refine (recur_length y m h0 h1 hm0 hm1 _).mono ?_; rintro e w1 ⟨rfl, hb1⟩; obtain ⟨hc1, hf1⟩ := bcell hb1; have hz1 : w.heap.size < w1.heap.size := (by have := hb1.size; simp at this; omega); have HB := Aside0.mk (B0.out.trans (hb1.mono (by simp))); clear hb1)
      | (go_at_call 57; refine (contains_int A5 c5 l5 _ _ (Kd.C_below HR5.out HB.out) hc5 hl5).mono ?_; rintro e w2 ⟨rfl, hb2⟩; obtain ⟨hc2, hf2⟩ := bcell hb2; have hz2 : w.heap.size < w2.heap.size := (Nat.lt_of_lt_of_le (by assumption) hb2.size); have HB' := Aside0.mk (HB.out.trans (hb2.mono HB.out.size)); clear HB hb2; have HB := HB'; clear HB')
      | (go_at_call 87; refine (recur_ContainsFunc _ _ _ A6 c6 l6 _ (Kd.C_below HR6.out (by first | exact HB.out | exact HB.out.alloc HB.out.size _)) hc6 hl6).mono ?_; rintro e w4 ⟨rfl, hb4⟩; have HC := Aside0.mk hb4; clear hb4))
          go_ret
          exact ⟨ret_bool HF.out.symm, (HB.out.alloc HB.out.size _).trans (HC.out.mono (by have := HB.out.size; simp; omega))⟩
      · have k2' : hasI l5 (d - Cal.mlen y m - 1) = false := by simpa using k2
        have hfin : mayS l5 l6 (Cal.mlen y m) d wd first = false := by unfold mayS; rw [if_neg (fun h => e5 h.1), if_pos ⟨e5, k1', k2'⟩]
        have HF := Lib.hid hfin
        clear hfin lt nz emp k2
        go_enter Tryz.func59, Tryz.ntmps59
        go_wp2_with (first
      | (go_at_call 86; refine (recur_length y m h0 h1 hm0 hm1 _).mono ?_; rintro e w1 ⟨rfl, hb1⟩; obtain ⟨hc1, hf1⟩ := bcell hb1; have hz1 : w.heap.size < w1.heap.size := (by have := hb1.size; simp at this; omega); have HB := Aside0.mk (B0.out.trans (hb1.mono (by simp))); clear hb1)
      | (go_at_call 57; refine (contains_int A5 c5 l5 _ _ (Kd.C_below HR5.out HB.out) hc5 hl5).mono ?_; rintro e w2 ⟨rfl, hb2⟩; obtain ⟨hc2, hf2⟩ := bcell hb2; have hz2 : w.heap.size < w2.heap.size := (Nat.lt_of_lt_of_le (by assumption) hb2.size); have HB' := Aside0.mk (HB.out.trans (hb2.mono HB.out.size)); clear HB hb2; have HB := HB'; clear HB')
      | (go_at_call 87; refine (recur_ContainsFunc _ _ _ A6 c6 l6 _ (Kd.C_below HR6.out (by first | exact HB.out | exact HB.out.alloc HB.out.size _)) hc6 hl6).mono ?_; rintro e w4 ⟨rfl, hb4⟩; have HC := Aside0.mk hb4; clear hb4))
        go_ret
        exact ⟨ret_bool HF.out.symm, HB.out⟩
end Go.Proofs.YtfbmjonhohebiaaGreatDoor
end
section
set_option linter.unusedVariables false
set_option linter.unusedSimpArgs false
namespace Go.Proofs.YtfbmjonhohebiaaGreatDoor
open Go.RowKit Go.Proofs.YtfbmjonhohebiaaGreatDoorW.PrintWords Go.Proofs.YtfbmjonhohebiaaGreatDoorW.PrintLast Go.Proofs.YtfbmjonhohebiaaGreatDoorW.PrintMore PRecurExpands
theorem civil_some (n : Int) (h0 : 0 ≤ n) (h1 : n ≤ 2932896) : ∃ y m d, Cal.IsCivil n y m d := by
  obtain ⟨e, w', fr, ⟨⟨y, m, d, h, _⟩, _⟩, _⟩ := when_Civil n h0 h1 default []
  exact ⟨y, m, d, h⟩
theorem when_Civil_at {n y m d : Int} (h0 : 0 ≤ n) (h1 : n ≤ 2932896) (h : Cal.IsCivil n y m d) (w : World) :
    Calls Tryz.prog 55 #[.int .i64 n] w fun e w' => e = .returned (.tuple #[.int .i64 y, .int .i64 m, .int .i64 d, .int .i64 0]) ∧ Below w.heap.size w w' := by
  refine (when_Civil n h0 h1 w).mono ?_
  rintro e w' ⟨⟨y', m', d', h', rfl⟩, hb⟩
  obtain ⟨rfl, rfl, rfl⟩ := h.uniq h'
  exact ⟨rfl, hb⟩
theorem date_Weekday (n : Int) (h0 : 0 ≤ n) (h1 : n ≤ 2932896) (w : World) :
    Calls Tryz.prog 56 #[.int .i64 n] w fun e w' => e = .returned (.tuple #[.int .i64 ((n + 3) % 7), .int .i64 0]) ∧ Below w.heap.size w w' := by
  have hk : date_Weekday.f n = some ((n + 3) % 7, 0) := by
    unfold date_Weekday.f
    rw [if_neg (by omega), if_neg (by omega), wrap64_in (by omega) (by omega), Int.tmod_eq_emod_of_nonneg (by omega)]
  exact (date_Weekday.calls n _ _ w hk).mono fun e w' h => ⟨h.1, h.2.below⟩
def matchS (f i : Int) (l4 l5 : List Int) (l6 : List S59) (first day y m d y0 m0 d0 : Int) : Bool :=
  if day < first then false
  else if l4 ≠ [] ∧ hasI l4 m = false then false
  else if f = 1 then ((day - first) % i == 0) && onS l6 ((day + 3) % 7)
  else if f = 2 then ((day - (day + 3) % 7 - first + (first + 3) % 7) / 7 % i == 0) && (if l6 = [] then (day + 3) % 7 == (first + 3) % 7 else onS l6 ((day + 3) % 7))
  else if f = 3 then ((12 * (y - y0) + m - m0) % i == 0) && mayS l5 l6 (Cal.mlen y m) d ((day + 3) % 7) d0
  else ((y - y0) % i == 0) && (decide (l4 ≠ []) || m == m0) && mayS l5 l6 (Cal.mlen y m) d ((day + 3) % 7) d0
theorem rule_on (a0 a1 a2 a3 : Int) (A4 A5 A6 : Option Addr) (c4 c5 c6 : Nat) (l4 l5 : List Int) (l6 : List S59) (wd : Int) (w : World)
    (hr4 : Kd.C (Kd.int .i64) w A4 l4.length l4) (hc4 : l4.length ≤ c4) (hr5 : Kd.C (Kd.int .i64) w A5 l5.length l5) (hc5 : l5.length ≤ c5) (hr6 : Kd.C k59 w A6 l6.length l6) (hc6 : l6.length ≤ c6) (hl6 : l6.length ≤ 1000000000) :
    Calls Tryz.prog 58 #[.agg #[.int .i64 a0, .int .i64 a1, .int .i64 a2, .int .i64 a3, .slice A4 l4.length c4, .slice A5 l5.length c5, .slice A6 l6.length c6], .int .i64 wd] w fun e w' =>
      e = .returned (.bool (onS l6 wd)) ∧ Below w.heap.size w w' := by
  obtain ⟨k, hk⟩ := (on_ev a0 a1 a2 a3 l4 l5 l6 wd hl6).rounds
  exact recur_Rule_on.calls k a0 a1 a2 a3 A4 c4 l4 A5 c5 l5 A6 c6 l6 wd _ w hr4 hc4 hr5 hc5 hr6 hc6 hk
set_option maxRecDepth 100000 in
set_option maxHeartbeats 4000000 in
theorem recur_match_early (a0 a1 a2 a3 : Int) (A4 A5 A6 : Option Addr) (c4 c5 c6 : Nat) (l4 l5 : List Int) (l6 : List S59) (first day y d y0 d0 : Int) (m m0 : Nat) (w : World)
    (hr4 : Kd.C (Kd.int .i64) w A4 l4.length l4) (hc4 : l4.length ≤ c4) (hr5 : Kd.C (Kd.int .i64) w A5 l5.length l5) (hc5 : l5.length ≤ c5) (hr6 : Kd.C k59 w A6 l6.length l6) (hc6 : l6.length ≤ c6)
    (hl4 : l4.length ≤ 1000000000) (hl5 : l5.length ≤ 1000000000) (hl6 : l6.length ≤ 1000000000)
    (hi0 : 1 ≤ a1) (hi1 : a1 ≤ 1000) (hf0 : 0 ≤ first) (hf1 : first ≤ 2932896) (hd0 : 0 ≤ day) (hd1 : day ≤ 2932896) (hcf : Cal.IsCivil first y0 m0 d0) (hcd : Cal.IsCivil day y m d) (hlt : day < first) :
    Calls Tryz.prog 27 #[.agg #[.int .i64 a0, .int .i64 a1, .int .i64 a2, .int .i64 a3, .slice A4 l4.length c4, .slice A5 l5.length c5, .slice A6 l6.length c6], .int .i64 first, .int .i64 day] w fun e w' =>
      e = .returned (.bool (matchS a0 a1 l4 l5 l6 first day y m d y0 m0 d0)) ∧ Below w.heap.size w w' := by
  have hfin : matchS a0 a1 l4 l5 l6 first day y m d y0 m0 d0 = false := by
    unfold matchS
    rw [if_pos hlt]
  have HF := Lib.hid hfin
  clear hfin
  have HR4 := Aside0.mk hr4
  have HR5 := Aside0.mk hr5
  have HR6 := Aside0.mk hr6
  have HCF := Aside0.mk hcf
  have HCD := Aside0.mk hcd
  clear hr4 hr5 hr6
  obtain ⟨u1, u2, u3, u4, u5, u6, -⟩ := hcf
  obtain ⟨v1, v2, v3, v4, v5, v6, -⟩ := hcd
  have mlF := mlen_le31 y0 m0
  have mlD := mlen_le31 y m
  have HB := Aside0.mk ((Below.refl w.heap.size w).alloc (Nat.le_refl _) (.cells #[.int .i64 a0, .int .i64 a1, .int .i64 a2, .int .i64 a3, .slice A4 l4.length c4, .slice A5 l5.length c5, .slice A6 l6.length c6] 25))
  have hz : w.heap.size < (w.alloc (.cells #[.int .i64 a0, .int .i64 a1, .int .i64 a2, .int .i64 a3, .slice A4 l4.length c4, .slice A5 l5.length c5, .slice A6 l6.length c6] 25)).heap.size := by simp
  go_enter Tryz.func27, Tryz.ntmps27
  go_wp2_with (first
      | (go_at_call 55; ((with_reducible refine (when_Civil_at hf0 hf1 HCF.out _).mono ?_); rintro e w2 ⟨rfl, hb2⟩; obtain ⟨hc2, hf2⟩ := bcell hb2; have hz : w.heap.size < w2.heap.size := Nat.lt_of_lt_of_le hz hb2.size; have HB' := Aside0.mk (HB.out.trans (hb2.mono HB.out.size)); clear HB hb2; have HB := HB'; clear HB'))
      | (go_at_call 55; ((with_reducible refine (when_Civil_at hd0 hd1 HCD.out _).mono ?_); rintro e w2 ⟨rfl, hb2⟩; obtain ⟨hc2, hf2⟩ := bcell hb2; have hz : w.heap.size < w2.heap.size := Nat.lt_of_lt_of_le hz hb2.size; have HB' := Aside0.mk (HB.out.trans (hb2.mono HB.out.size)); clear HB hb2; have HB := HB'; clear HB'))
      | (go_at_call 56; ((with_reducible refine (date_Weekday first hf0 hf1 _).mono ?_); rintro e w2 ⟨rfl, hb2⟩; obtain ⟨hc2, hf2⟩ := bcell hb2; have hz : w.heap.size < w2.heap.size := Nat.lt_of_lt_of_le hz hb2.size; have HB' := Aside0.mk (HB.out.trans (hb2.mono HB.out.size)); clear HB hb2; have HB := HB'; clear HB'))
      | (go_at_call 56; ((with_reducible refine (date_Weekday day hd0 hd1 _).mono ?_); rintro e w2 ⟨rfl, hb2⟩; obtain ⟨hc2, hf2⟩ := bcell hb2; have hz : w.heap.size < w2.heap.size := Nat.lt_of_lt_of_le hz hb2.size; have HB' := Aside0.mk (HB.out.trans (hb2.mono HB.out.size)); clear HB hb2; have HB := HB'; clear HB'))
      | (go_at_call 57; ((with_reducible refine (contains_int A4 c4 l4 _ _ (Kd.C_below HR4.out HB.out) hc4 hl4).mono ?_); rintro e w2 ⟨rfl, hb2⟩; obtain ⟨hc2, hf2⟩ := bcell hb2; have hz : w.heap.size < w2.heap.size := Nat.lt_of_lt_of_le hz hb2.size; have HB' := Aside0.mk (HB.out.trans (hb2.mono HB.out.size)); clear HB hb2; have HB := HB'; clear HB'))
      | (go_at_call 58; ((with_reducible refine (rule_on a0 a1 a2 a3 A4 A5 A6 c4 c5 c6 l4 l5 l6 _ _ (Kd.C_below HR4.out HB.out) hc4 (Kd.C_below HR5.out HB.out) hc5 (Kd.C_below HR6.out HB.out) hc6 hl6).mono ?_); rintro e w2 ⟨rfl, hb2⟩; obtain ⟨hc2, hf2⟩ := bcell hb2; have hz : w.heap.size < w2.heap.size := Nat.lt_of_lt_of_le hz hb2.size; have HB' := Aside0.mk (HB.out.trans (hb2.mono HB.out.size)); clear HB hb2; have HB := HB'; clear HB'))
      | (go_at_call 59; ((with_reducible refine (recur_may a0 a1 a2 a3 A4 A5 A6 c4 c5 c6 l4 l5 l6 y d _ d0 m _ (Kd.C_below HR5.out HB.out) hc5 (Kd.C_below HR6.out HB.out) hc6 hl5 hl6 v1 v2 (by omega) (by omega) v5 v6).mono ?_); rintro e w2 ⟨rfl, hb2⟩; obtain ⟨hc2, hf2⟩ := bcell hb2; have hz : w.heap.size < w2.heap.size := Nat.lt_of_lt_of_le hz hb2.size; have HB' := Aside0.mk (HB.out.trans (hb2.mono HB.out.size)); clear HB hb2; have HB := HB'; clear HB')))
  go_ret
  exact ⟨ret_bool HF.out.symm, HB.out⟩
set_option maxRecDepth 100000 in
set_option maxHeartbeats 4000000 in
theorem recur_match_month (a0 a1 a2 a3 : Int) (A4 A5 A6 : Option Addr) (c4 c5 c6 : Nat) (l4 l5 : List Int) (l6 : List S59) (first day y d y0 d0 : Int) (m m0 : Nat) (w : World)
    (hr4 : Kd.C (Kd.int .i64) w A4 l4.length l4) (hc4 : l4.length ≤ c4) (hr5 : Kd.C (Kd.int .i64) w A5 l5.length l5) (hc5 : l5.length ≤ c5) (hr6 : Kd.C k59 w A6 l6.length l6) (hc6 : l6.length ≤ c6)
    (hl4 : l4.length ≤ 1000000000) (hl5 : l5.length ≤ 1000000000) (hl6 : l6.length ≤ 1000000000)
    (hi0 : 1 ≤ a1) (hi1 : a1 ≤ 1000) (hf0 : 0 ≤ first) (hf1 : first ≤ 2932896) (hd0 : 0 ≤ day) (hd1 : day ≤ 2932896) (hcf : Cal.IsCivil first y0 m0 d0) (hcd : Cal.IsCivil day y m d) (hge : first ≤ day) (e4 : l4 ≠ []) (k4 : hasI l4 m = false) :
    Calls Tryz.prog 27 #[.agg #[.int .i64 a0, .int .i64 a1, .int .i64 a2, .int .i64 a3, .slice A4 l4.length c4, .slice A5 l5.length c5, .slice A6 l6.length c6], .int .i64 first, .int .i64 day] w fun e w' =>
      e = .returned (.bool (matchS a0 a1 l4 l5 l6 first day y m d y0 m0 d0)) ∧ Below w.heap.size w w' := by
  have hfin : matchS a0 a1 l4 l5 l6 first day y m d y0 m0 d0 = false := by
    unfold matchS
    rw [if_neg (by omega), if_pos ⟨e4, k4⟩]
  have HF := Lib.hid hfin
  clear hfin
  have p4 : 0 < l4.length := List.length_pos_iff.mpr e4
  have HR4 := Aside0.mk hr4
  have HR5 := Aside0.mk hr5
  have HR6 := Aside0.mk hr6
  have HCF := Aside0.mk hcf
  have HCD := Aside0.mk hcd
  clear hr4 hr5 hr6
  obtain ⟨u1, u2, u3, u4, u5, u6, -⟩ := hcf
  obtain ⟨v1, v2, v3, v4, v5, v6, -⟩ := hcd
  have mlF := mlen_le31 y0 m0
  have mlD := mlen_le31 y m
  have HB := Aside0.mk ((Below.refl w.heap.size w).alloc (Nat.le_refl _) (.cells #[.int .i64 a0, .int .i64 a1, .int .i64 a2, .int .i64 a3, .slice A4 l4.length c4, .slice A5 l5.length c5, .slice A6 l6.length c6] 25))
  have hz : w.heap.size < (w.alloc (.cells #[.int .i64 a0, .int .i64 a1, .int .i64 a2, .int .i64 a3, .slice A4 l4.length c4, .slice A5 l5.length c5, .slice A6 l6.length c6] 25)).heap.size := by simp
  clear e4
  go_enter Tryz.func27, Tryz.ntmps27
  go_wp2_with (first
      | (go_at_call 55; ((with_reducible refine (when_Civil_at hf0 hf1 HCF.out _).mono ?_); rintro e w2 ⟨rfl, hb2⟩; obtain ⟨hc2, hf2⟩ := bcell hb2; have hz : w.heap.size < w2.heap.size := Nat.lt_of_lt_of_le hz hb2.size; have HB' := Aside0.mk (HB.out.trans (hb2.mono HB.out.size)); clear HB hb2; have HB := HB'; clear HB'))
      | (go_at_call 55; ((with_reducible refine (when_Civil_at hd0 hd1 HCD.out _).mono ?_); rintro e w2 ⟨rfl, hb2⟩; obtain ⟨hc2, hf2⟩ := bcell hb2; have hz : w.heap.size < w2.heap.size := Nat.lt_of_lt_of_le hz hb2.size; have HB' := Aside0.mk (HB.out.trans (hb2.mono HB.out.size)); clear HB hb2; have HB := HB'; clear HB'))
      | (go_at_call 56; ((with_reducible refine (date_Weekday first hf0 hf1 _).mono ?_); rintro e w2 ⟨rfl, hb2⟩; obtain ⟨hc2, hf2⟩ := bcell hb2; have hz : w.heap.size < w2.heap.size := Nat.lt_of_lt_of_le hz hb2.size; have HB' := Aside0.mk (HB.out.trans (hb2.mono HB.out.size)); clear HB hb2; have HB := HB'; clear HB'))
      | (go_at_call 56; ((with_reducible refine (date_Weekday day hd0 hd1 _).mono ?_); rintro e w2 ⟨rfl, hb2⟩; obtain ⟨hc2, hf2⟩ := bcell hb2; have hz : w.heap.size < w2.heap.size := Nat.lt_of_lt_of_le hz hb2.size; have HB' := Aside0.mk (HB.out.trans (hb2.mono HB.out.size)); clear HB hb2; have HB := HB'; clear HB'))
      | (go_at_call 57; ((with_reducible refine (contains_int A4 c4 l4 _ _ (Kd.C_below HR4.out HB.out) hc4 hl4).mono ?_); rintro e w2 ⟨rfl, hb2⟩; obtain ⟨hc2, hf2⟩ := bcell hb2; have hz : w.heap.size < w2.heap.size := Nat.lt_of_lt_of_le hz hb2.size; have HB' := Aside0.mk (HB.out.trans (hb2.mono HB.out.size)); clear HB hb2; have HB := HB'; clear HB'))
      | (go_at_call 58; ((with_reducible refine (rule_on a0 a1 a2 a3 A4 A5 A6 c4 c5 c6 l4 l5 l6 _ _ (Kd.C_below HR4.out HB.out) hc4 (Kd.C_below HR5.out HB.out) hc5 (Kd.C_below HR6.out HB.out) hc6 hl6).mono ?_); rintro e w2 ⟨rfl, hb2⟩; obtain ⟨hc2, hf2⟩ := bcell hb2; have hz : w.heap.size < w2.heap.size := Nat.lt_of_lt_of_le hz hb2.size; have HB' := Aside0.mk (HB.out.trans (hb2.mono HB.out.size)); clear HB hb2; have HB := HB'; clear HB'))
      | (go_at_call 59; ((with_reducible refine (recur_may a0 a1 a2 a3 A4 A5 A6 c4 c5 c6 l4 l5 l6 y d _ d0 m _ (Kd.C_below HR5.out HB.out) hc5 (Kd.C_below HR6.out HB.out) hc6 hl5 hl6 v1 v2 (by omega) (by omega) v5 v6).mono ?_); rintro e w2 ⟨rfl, hb2⟩; obtain ⟨hc2, hf2⟩ := bcell hb2; have hz : w.heap.size < w2.heap.size := Nat.lt_of_lt_of_le hz hb2.size; have HB' := Aside0.mk (HB.out.trans (hb2.mono HB.out.size)); clear HB hb2; have HB := HB'; clear HB')))
  go_ret
  exact ⟨ret_bool HF.out.symm, HB.out⟩
set_option maxRecDepth 100000 in
set_option maxHeartbeats 4000000 in
theorem recur_match_f1aE (a0 a1 a2 a3 : Int) (A4 A5 A6 : Option Addr) (c4 c5 c6 : Nat) (l4 l5 : List Int) (l6 : List S59) (first day y d y0 d0 : Int) (m m0 : Nat) (w : World)
    (hr4 : Kd.C (Kd.int .i64) w A4 l4.length l4) (hc4 : l4.length ≤ c4) (hr5 : Kd.C (Kd.int .i64) w A5 l5.length l5) (hc5 : l5.length ≤ c5) (hr6 : Kd.C k59 w A6 l6.length l6) (hc6 : l6.length ≤ c6)
    (hl4 : l4.length ≤ 1000000000) (hl5 : l5.length ≤ 1000000000) (hl6 : l6.length ≤ 1000000000)
    (hi0 : 1 ≤ a1) (hi1 : a1 ≤ 1000) (hf0 : 0 ≤ first) (hf1 : first ≤ 2932896) (hd0 : 0 ≤ day) (hd1 : day ≤ 2932896) (hcf : Cal.IsCivil first y0 m0 d0) (hcd : Cal.IsCivil day y m d) (hge : first ≤ day) (e4 : l4 = []) (ef : a0 = 1) (hr : ((day - first) % a1 == 0) = true) :
    Calls Tryz.prog 27 #[.agg #[.int .i64 a0, .int .i64 a1, .int .i64 a2, .int .i64 a3, .slice A4 l4.length c4, .slice A5 l5.length c5, .slice A6 l6.length c6], .int .i64 first, .int .i64 day] w fun e w' =>
      e = .returned (.bool (matchS a0 a1 l4 l5 l6 first day y m d y0 m0 d0)) ∧ Below w.heap.size w w' := by
  have hfin : matchS a0 a1 l4 l5 l6 first day y m d y0 m0 d0 = onS l6 ((day + 3) % 7) := by
    unfold matchS
    rw [if_neg (by omega), if_neg (fun h => h.1 e4), if_pos ef, hr, Bool.true_and]
  have HF := Lib.hid hfin
  clear hfin
  have z4 : decide (0 < l4.length) = false := by rw [e4]; rfl
  have g1 : (a0 == 1) = true := by rw [ef]; rfl
  clear ef
  have HR4 := Aside0.mk hr4
  have HR5 := Aside0.mk hr5
  have HR6 := Aside0.mk hr6
  have HCF := Aside0.mk hcf
  have HCD := Aside0.mk hcd
  clear hr4 hr5 hr6
  obtain ⟨u1, u2, u3, u4, u5, u6, -⟩ := hcf
  obtain ⟨v1, v2, v3, v4, v5, v6, -⟩ := hcd
  have mlF := mlen_le31 y0 m0
  have mlD := mlen_le31 y m
  have HB := Aside0.mk ((Below.refl w.heap.size w).alloc (Nat.le_refl _) (.cells #[.int .i64 a0, .int .i64 a1, .int .i64 a2, .int .i64 a3, .slice A4 l4.length c4, .slice A5 l5.length c5, .slice A6 l6.length c6] 25))
  have hz : w.heap.size < (w.alloc (.cells #[.int .i64 a0, .int .i64 a1, .int .i64 a2, .int .i64 a3, .slice A4 l4.length c4, .slice A5 l5.length c5, .slice A6 l6.length c6] 25)).heap.size := by simp
  clear e4
  go_enter Tryz.func27, Tryz.ntmps27
  go_wp2_with (first
      | (go_at_call 55; ((with_reducible refine (when_Civil_at hf0 hf1 HCF.out _).mono ?_); rintro e w2 ⟨rfl, hb2⟩; obtain ⟨hc2, hf2⟩ := bcell hb2; have hz : w.heap.size < w2.heap.size := Nat.lt_of_lt_of_le hz hb2.size; have HB' := Aside0.mk (HB.out.trans (hb2.mono HB.out.size)); clear HB hb2; have HB := HB'; clear HB'))
      | (go_at_call 55; ((with_reducible refine (when_Civil_at hd0 hd1 HCD.out _).mono ?_); rintro e w2 ⟨rfl, hb2⟩; obtain ⟨hc2, hf2⟩ := bcell hb2; have hz : w.heap.size < w2.heap.size := Nat.lt_of_lt_of_le hz hb2.size; have HB' := Aside0.mk (HB.out.trans (hb2.mono HB.out.size)); clear HB hb2; have HB := HB'; clear HB'))
      | (go_at_call 56; ((with_reducible refine (date_Weekday first hf0 hf1 _).mono ?_); rintro e w2 ⟨rfl, hb2⟩; obtain ⟨hc2, hf2⟩ := bcell hb2; have hz : w.heap.size < w2.heap.size := Nat.lt_of_lt_of_le hz hb2.size; have HB' := Aside0.mk (HB.out.trans (hb2.mono HB.out.size)); clear HB hb2; have HB := HB'; clear HB'))
      | (go_at_call 56; ((with_reducible refine (date_Weekday day hd0 hd1 _).mono ?_); rintro e w2 ⟨rfl, hb2⟩; obtain ⟨hc2, hf2⟩ := bcell hb2; have hz : w.heap.size < w2.heap.size := Nat.lt_of_lt_of_le hz hb2.size; have HB' := Aside0.mk (HB.out.trans (hb2.mono HB.out.size)); clear HB hb2; have HB := HB'; clear HB'))
      | (go_at_call 57; ((with_reducible refine (contains_int A4 c4 l4 _ _ (Kd.C_below HR4.out HB.out) hc4 hl4).mono ?_); rintro e w2 ⟨rfl, hb2⟩; obtain ⟨hc2, hf2⟩ := bcell hb2; have hz : w.heap.size < w2.heap.size := Nat.lt_of_lt_of_le hz hb2.size; have HB' := Aside0.mk (HB.out.trans (hb2.mono HB.out.size)); clear HB hb2; have HB := HB'; clear HB'))
      | (go_at_call 58; ((with_reducible refine (rule_on a0 a1 a2 a3 A4 A5 A6 c4 c5 c6 l4 l5 l6 _ _ (Kd.C_below HR4.out HB.out) hc4 (Kd.C_below HR5.out HB.out) hc5 (Kd.C_below HR6.out HB.out) hc6 hl6).mono ?_); rintro e w2 ⟨rfl, hb2⟩; obtain ⟨hc2, hf2⟩ := bcell hb2; have hz : w.heap.size < w2.heap.size := Nat.lt_of_lt_of_le hz hb2.size; have HB' := Aside0.mk (HB.out.trans (hb2.mono HB.out.size)); clear HB hb2; have HB := HB'; clear HB'))
      | (go_at_call 59; ((with_reducible refine (recur_may a0 a1 a2 a3 A4 A5 A6 c4 c5 c6 l4 l5 l6 y d _ d0 m _ (Kd.C_below HR5.out HB.out) hc5 (Kd.C_below HR6.out HB.out) hc6 hl5 hl6 v1 v2 (by omega) (by omega) v5 v6).mono ?_); rintro e w2 ⟨rfl, hb2⟩; obtain ⟨hc2, hf2⟩ := bcell hb2; have hz : w.heap.size < w2.heap.size := Nat.lt_of_lt_of_le hz hb2.size; have HB' := Aside0.mk (HB.out.trans (hb2.mono HB.out.size)); clear HB hb2; have HB := HB'; clear HB')))
  go_ret
  exact ⟨ret_bool HF.out.symm, HB.out⟩
set_option maxRecDepth 100000 in
set_option maxHeartbeats 4000000 in
theorem recur_match_f1bE (a0 a1 a2 a3 : Int) (A4 A5 A6 : Option Addr) (c4 c5 c6 : Nat) (l4 l5 : List Int) (l6 : List S59) (first day y d y0 d0 : Int) (m m0 : Nat) (w : World)
    (hr4 : Kd.C (Kd.int .i64) w A4 l4.length l4) (hc4 : l4.length ≤ c4) (hr5 : Kd.C (Kd.int .i64) w A5 l5.length l5) (hc5 : l5.length ≤ c5) (hr6 : Kd.C k59 w A6 l6.length l6) (hc6 : l6.length ≤ c6)
    (hl4 : l4.length ≤ 1000000000) (hl5 : l5.length ≤ 1000000000) (hl6 : l6.length ≤ 1000000000)
    (hi0 : 1 ≤ a1) (hi1 : a1 ≤ 1000) (hf0 : 0 ≤ first) (hf1 : first ≤ 2932896) (hd0 : 0 ≤ day) (hd1 : day ≤ 2932896) (hcf : Cal.IsCivil first y0 m0 d0) (hcd : Cal.IsCivil day y m d) (hge : first ≤ day) (e4 : l4 = []) (ef : a0 = 1) (hr : ((day - first) % a1 == 0) = false) :
    Calls Tryz.prog 27 #[.agg #[.int .i64 a0, .int .i64 a1, .int .i64 a2, .int .i64 a3, .slice A4 l4.length c4, .slice A5 l5.length c5, .slice A6 l6.length c6], .int .i64 first, .int .i64 day] w fun e w' =>
      e = .returned (.bool (matchS a0 a1 l4 l5 l6 first day y m d y0 m0 d0)) ∧ Below w.heap.size w w' := by
  have hfin : matchS a0 a1 l4 l5 l6 first day y m d y0 m0 d0 = false := by
    unfold matchS
    rw [if_neg (by omega), if_neg (fun h => h.1 e4), if_pos ef, hr, Bool.false_and]
  have HF := Lib.hid hfin
  clear hfin
  have z4 : decide (0 < l4.length) = false := by rw [e4]; rfl
  have g1 : (a0 == 1) = true := by rw [ef]; rfl
  clear ef
  have HR4 := Aside0.mk hr4
  have HR5 := Aside0.mk hr5
  have HR6 := Aside0.mk hr6
  have HCF := Aside0.mk hcf
  have HCD := Aside0.mk hcd
  clear hr4 hr5 hr6
  obtain ⟨u1, u2, u3, u4, u5, u6, -⟩ := hcf
  obtain ⟨v1, v2, v3, v4, v5, v6, -⟩ := hcd
  have mlF := mlen_le31 y0 m0
  have mlD := mlen_le31 y m
  have HB := Aside0.mk ((Below.refl w.heap.size w).alloc (Nat.le_refl _) (.cells #[.int .i64 a0, .int .i64 a1, .int .i64 a2, .int .i64 a3, .slice A4 l4.length c4, .slice A5 l5.length c5, .slice A6 l6.length c6] 25))
  have hz : w.heap.size < (w.alloc (.cells #[.int .i64 a0, .int .i64 a1, .int .i64 a2, .int .i64 a3, .slice A4 l4.length c4, .slice A5 l5.length c5, .slice A6 l6.length c6] 25)).heap.size := by simp
  clear e4
  go_enter Tryz.func27, Tryz.ntmps27
  go_wp2_with (first
      | (go_at_call 55; ((with_reducible refine (when_Civil_at hf0 hf1 HCF.out _).mono ?_); rintro e w2 ⟨rfl, hb2⟩; obtain ⟨hc2, hf2⟩ := bcell hb2; have hz : w.heap.size < w2.heap.size := Nat.lt_of_lt_of_le hz hb2.size; have HB' := Aside0.mk (HB.out.trans (hb2.mono HB.out.size)); clear HB hb2; have HB := HB'; clear HB'))
      | (go_at_call 55; ((with_reducible refine (when_Civil_at hd0 hd1 HCD.out _).mono ?_); rintro e w2 ⟨rfl, hb2⟩; obtain ⟨hc2, hf2⟩ := bcell hb2; have hz : w.heap.size < w2.heap.size := Nat.lt_of_lt_of_le hz hb2.size; have HB' := Aside0.mk (HB.out.trans (hb2.mono HB.out.size)); clear HB hb2; have HB := HB'; clear HB'))
      | (go_at_call 56; ((with_reducible refine (date_Weekday first hf0 hf1 _).mono ?_); rintro e w2 ⟨rfl, hb2⟩; obtain ⟨hc2, hf2⟩ := bcell hb2; have hz : w.heap.size < w2.heap.size := Nat.lt_of_lt_of_le hz hb2.size; have HB' := Aside0.mk (HB.out.trans (hb2.mono HB.out.size)); clear HB hb2; have HB := HB'; clear HB'))
      | (go_at_call 56; ((with_reducible refine (date_Weekday day hd0 hd1 _).mono ?_); rintro e w2 ⟨rfl, hb2⟩; obtain ⟨hc2, hf2⟩ := bcell hb2; have hz : w.heap.size < w2.heap.size := Nat.lt_of_lt_of_le hz hb2.size; have HB' := Aside0.mk (HB.out.trans (hb2.mono HB.out.size)); clear HB hb2; have HB := HB'; clear HB'))
      | (go_at_call 57; ((with_reducible refine (contains_int A4 c4 l4 _ _ (Kd.C_below HR4.out HB.out) hc4 hl4).mono ?_); rintro e w2 ⟨rfl, hb2⟩; obtain ⟨hc2, hf2⟩ := bcell hb2; have hz : w.heap.size < w2.heap.size := Nat.lt_of_lt_of_le hz hb2.size; have HB' := Aside0.mk (HB.out.trans (hb2.mono HB.out.size)); clear HB hb2; have HB := HB'; clear HB'))
      | (go_at_call 58; ((with_reducible refine (rule_on a0 a1 a2 a3 A4 A5 A6 c4 c5 c6 l4 l5 l6 _ _ (Kd.C_below HR4.out HB.out) hc4 (Kd.C_below HR5.out HB.out) hc5 (Kd.C_below HR6.out HB.out) hc6 hl6).mono ?_); rintro e w2 ⟨rfl, hb2⟩; obtain ⟨hc2, hf2⟩ := bcell hb2; have hz : w.heap.size < w2.heap.size := Nat.lt_of_lt_of_le hz hb2.size; have HB' := Aside0.mk (HB.out.trans (hb2.mono HB.out.size)); clear HB hb2; have HB := HB'; clear HB'))
      | (go_at_call 59; ((with_reducible refine (recur_may a0 a1 a2 a3 A4 A5 A6 c4 c5 c6 l4 l5 l6 y d _ d0 m _ (Kd.C_below HR5.out HB.out) hc5 (Kd.C_below HR6.out HB.out) hc6 hl5 hl6 v1 v2 (by omega) (by omega) v5 v6).mono ?_); rintro e w2 ⟨rfl, hb2⟩; obtain ⟨hc2, hf2⟩ := bcell hb2; have hz : w.heap.size < w2.heap.size := Nat.lt_of_lt_of_le hz hb2.size; have HB' := Aside0.mk (HB.out.trans (hb2.mono HB.out.size)); clear HB hb2; have HB := HB'; clear HB')))
  go_ret
  exact ⟨ret_bool HF.out.symm, HB.out⟩
set_option maxRecDepth 100000 in
set_option maxHeartbeats 4000000 in
theorem recur_match_f2bE (a0 a1 a2 a3 : Int) (A4 A5 A6 : Option Addr) (c4 c5 c6 : Nat) (l4 l5 : List Int) (l6 : List S59) (first day y d y0 d0 : Int) (m m0 : Nat) (w : World)
    (hr4 : Kd.C (Kd.int .i64) w A4 l4.length l4) (hc4 : l4.length ≤ c4) (hr5 : Kd.C (Kd.int .i64) w A5 l5.length l5) (hc5 : l5.length ≤ c5) (hr6 : Kd.C k59 w A6 l6.length l6) (hc6 : l6.length ≤ c6)
    (hl4 : l4.length ≤ 1000000000) (hl5 : l5.length ≤ 1000000000) (hl6 : l6.length ≤ 1000000000)
    (hi0 : 1 ≤ a1) (hi1 : a1 ≤ 1000) (hf0 : 0 ≤ first) (hf1 : first ≤ 2932896) (hd0 : 0 ≤ day) (hd1 : day ≤ 2932896) (hcf : Cal.IsCivil first y0 m0 d0) (hcd : Cal.IsCivil day y m d) (hge : first ≤ day) (e4 : l4 = []) (ef : a0 = 2) (hr : ((day - (day + 3) % 7 - first + (first + 3) % 7) / 7 % a1 == 0) = false) :
    Calls Tryz.prog 27 #[.agg #[.int .i64 a0, .int .i64 a1, .int .i64 a2, .int .i64 a3, .slice A4 l4.length c4, .slice A5 l5.length c5, .slice A6 l6.length c6], .int .i64 first, .int .i64 day] w fun e w' =>
      e = .returned (.bool (matchS a0 a1 l4 l5 l6 first day y m d y0 m0 d0)) ∧ Below w.heap.size w w' := by
  have hfin : matchS a0 a1 l4 l5 l6 first day y m d y0 m0 d0 = false := by
    unfold matchS
    rw [if_neg (by omega), if_neg (fun h => h.1 e4), if_neg (by omega), if_pos ef, hr, Bool.false_and]
  have HF := Lib.hid hfin
  clear hfin
  have z4 : decide (0 < l4.length) = false := by rw [e4]; rfl
  have hwk : 0 ≤ day - (day + 3) % 7 - first + (first + 3) % 7 := by omega
  have g1 : (a0 == 1) = false := by rw [ef]; rfl
  have g2 : (a0 == 2) = true := by rw [ef]; rfl
  clear ef
  have HR4 := Aside0.mk hr4
  have HR5 := Aside0.mk hr5
  have HR6 := Aside0.mk hr6
  have HCF := Aside0.mk hcf
  have HCD := Aside0.mk hcd
  clear hr4 hr5 hr6
  obtain ⟨u1, u2, u3, u4, u5, u6, -⟩ := hcf
  obtain ⟨v1, v2, v3, v4, v5, v6, -⟩ := hcd
  have mlF := mlen_le31 y0 m0
  have mlD := mlen_le31 y m
  have HB := Aside0.mk ((Below.refl w.heap.size w).alloc (Nat.le_refl _) (.cells #[.int .i64 a0, .int .i64 a1, .int .i64 a2, .int .i64 a3, .slice A4 l4.length c4, .slice A5 l5.length c5, .slice A6 l6.length c6] 25))
  have hz : w.heap.size < (w.alloc (.cells #[.int .i64 a0, .int .i64 a1, .int .i64 a2, .int .i64 a3, .slice A4 l4.length c4, .slice A5 l5.length c5, .slice A6 l6.length c6] 25)).heap.size := by simp
  clear e4
  go_enter Tryz.func27, Tryz.ntmps27
  go_wp2_with (first
      | (go_at_call 55; ((with_reducible refine (when_Civil_at hf0 hf1 HCF.out _).mono ?_); rintro e w2 ⟨rfl, hb2⟩; obtain ⟨hc2, hf2⟩ := bcell hb2; have hz : w.heap.size < w2.heap.size := Nat.lt_of_lt_of_le hz hb2.size; have HB' := Aside0.mk (HB.out.trans (hb2.mono HB.out.size)); clear HB hb2; have HB := HB'; clear HB'))
      | (go_at_call 55; ((with_reducible refine (when_Civil_at hd0 hd1 HCD.out _).mono ?_); rintro e w2 ⟨rfl, hb2⟩; obtain ⟨hc2, hf2⟩ := bcell hb2; have hz : w.heap.size < w2.heap.size := Nat.lt_of_lt_of_le hz hb2.size; have HB' := Aside0.mk (HB.out.trans (hb2.mono HB.out.size)); clear HB hb2; have HB := HB'; clear HB'))
      | (go_at_call 56; ((with_reducible refine (date_Weekday first hf0 hf1 _).mono ?_); rintro e w2 ⟨rfl, hb2⟩; obtain ⟨hc2, hf2⟩ := bcell hb2; have hz : w.heap.size < w2.heap.size := Nat.lt_of_lt_of_le hz hb2.size; have HB' := Aside0.mk (HB.out.trans (hb2.mono HB.out.size)); clear HB hb2; have HB := HB'; clear HB'))
      | (go_at_call 56; ((with_reducible refine (date_Weekday day hd0 hd1 _).mono ?_); rintro e w2 ⟨rfl, hb2⟩; obtain ⟨hc2, hf2⟩ := bcell hb2; have hz : w.heap.size < w2.heap.size := Nat.lt_of_lt_of_le hz hb2.size; have HB' := Aside0.mk (HB.out.trans (hb2.mono HB.out.size)); clear HB hb2; have HB := HB'; clear HB'))
      | (go_at_call 57; ((with_reducible refine (contains_int A4 c4 l4 _ _ (Kd.C_below HR4.out HB.out) hc4 hl4).mono ?_); rintro e w2 ⟨rfl, hb2⟩; obtain ⟨hc2, hf2⟩ := bcell hb2; have hz : w.heap.size < w2.heap.size := Nat.lt_of_lt_of_le hz hb2.size; have HB' := Aside0.mk (HB.out.trans (hb2.mono HB.out.size)); clear HB hb2; have HB := HB'; clear HB'))
      | (go_at_call 58; ((with_reducible refine (rule_on a0 a1 a2 a3 A4 A5 A6 c4 c5 c6 l4 l5 l6 _ _ (Kd.C_below HR4.out HB.out) hc4 (Kd.C_below HR5.out HB.out) hc5 (Kd.C_below HR6.out HB.out) hc6 hl6).mono ?_); rintro e w2 ⟨rfl, hb2⟩; obtain ⟨hc2, hf2⟩ := bcell hb2; have hz : w.heap.size < w2.heap.size := Nat.lt_of_lt_of_le hz hb2.size; have HB' := Aside0.mk (HB.out.trans (hb2.mono HB.out.size)); clear HB hb2; have HB := HB'; clear HB'))
      | (go_at_call 59; ((with_reducible refine (recur_may a0 a1 a2 a3 A4 A5 A6 c4 c5 c6 l4 l5 l6 y d _ d0 m _ (Kd.C_below HR5.out HB.out) hc5 (Kd.C_below HR6.out HB.out) hc6 hl5 hl6 v1 v2 (by omega) (by omega) v5 v6).mono ?_); rintro e w2 ⟨rfl, hb2⟩; obtain ⟨hc2, hf2⟩ := bcell hb2; have hz : w.heap.size < w2.heap.size := Nat.lt_of_lt_of_le hz hb2.size; have HB' := Aside0.mk (HB.out.trans (hb2.mono HB.out.size)); clear HB hb2; have HB := HB'; clear HB')))
  go_ret
  exact ⟨ret_bool HF.out.symm, HB.out⟩
set_option maxRecDepth 100000 in
set_option maxHeartbeats 4000000 in
theorem recur_match_f2eE (a0 a1 a2 a3 : Int) (A4 A5 A6 : Option Addr) (c4 c5 c6 : Nat) (l4 l5 : List Int) (l6 : List S59) (first day y d y0 d0 : Int) (m m0 : Nat) (w : World)
    (hr4 : Kd.C (Kd.int .i64) w A4 l4.length l4) (hc4 : l4.length ≤ c4) (hr5 : Kd.C (Kd.int .i64) w A5 l5.length l5) (hc5 : l5.length ≤ c5) (hr6 : Kd.C k59 w A6 l6.length l6) (hc6 : l6.length ≤ c6)
    (hl4 : l4.length ≤ 1000000000) (hl5 : l5.length ≤ 1000000000) (hl6 : l6.length ≤ 1000000000)
    (hi0 : 1 ≤ a1) (hi1 : a1 ≤ 1000) (hf0 : 0 ≤ first) (hf1 : first ≤ 2932896) (hd0 : 0 ≤ day) (hd1 : day ≤ 2932896) (hcf : Cal.IsCivil first y0 m0 d0) (hcd : Cal.IsCivil day y m d) (hge : first ≤ day) (e4 : l4 = []) (ef : a0 = 2) (hr : ((day - (day + 3) % 7 - first + (first + 3) % 7) / 7 % a1 == 0) = true) (e6 : l6 = []) :
    Calls Tryz.prog 27 #[.agg #[.int .i64 a0, .int .i64 a1, .int .i64 a2, .int .i64 a3, .slice A4 l4.length c4, .slice A5 l5.length c5, .slice A6 l6.length c6], .int .i64 first, .int .i64 day] w fun e w' =>
      e = .returned (.bool (matchS a0 a1 l4 l5 l6 first day y m d y0 m0 d0)) ∧ Below w.heap.size w w' := by
  have hfin : matchS a0 a1 l4 l5 l6 first day y m d y0 m0 d0 = ((day + 3) % 7 == (first + 3) % 7) := by
    unfold matchS
    rw [if_neg (by omega), if_neg (fun h => h.1 e4), if_neg (by omega), if_pos ef, hr, Bool.true_and, if_pos e6]
  have HF := Lib.hid hfin
  clear hfin
  have z4 : decide (0 < l4.length) = false := by rw [e4]; rfl
  have hwk : 0 ≤ day - (day + 3) % 7 - first + (first + 3) % 7 := by omega
  have g1 : (a0 == 1) = false := by rw [ef]; rfl
  have g2 : (a0 == 2) = true := by rw [ef]; rfl
  clear ef
  have y6 : ((l6.length : Int) == 0) = true := by rw [e6]; rfl
  have x6 : decide (0 < l6.length) = false := by rw [e6]; rfl
  clear e6
  have HR4 := Aside0.mk hr4
  have HR5 := Aside0.mk hr5
  have HR6 := Aside0.mk hr6
  have HCF := Aside0.mk hcf
  have HCD := Aside0.mk hcd
  clear hr4 hr5 hr6
  obtain ⟨u1, u2, u3, u4, u5, u6, -⟩ := hcf
  obtain ⟨v1, v2, v3, v4, v5, v6, -⟩ := hcd
  have mlF := mlen_le31 y0 m0
  have mlD := mlen_le31 y m
  have HB := Aside0.mk ((Below.refl w.heap.size w).alloc (Nat.le_refl _) (.cells #[.int .i64 a0, .int .i64 a1, .int .i64 a2, .int .i64 a3, .slice A4 l4.length c4, .slice A5 l5.length c5, .slice A6 l6.length c6] 25))
  have hz : w.heap.size < (w.alloc (.cells #[.int .i64 a0, .int .i64 a1, .int .i64 a2, .int .i64 a3, .slice A4 l4.length c4, .slice A5 l5.length c5, .slice A6 l6.length c6] 25)).heap.size := by simp
  clear e4
  go_enter Tryz.func27, Tryz.ntmps27
  go_wp2_with (first
      | (go_at_call 55; ((with_reducible refine (when_Civil_at hf0 hf1 HCF.out _).mono ?_); rintro e w2 ⟨rfl, hb2⟩; obtain ⟨hc2, hf2⟩ := bcell hb2; have hz : w.heap.size < w2.heap.size := Nat.lt_of_lt_of_le hz hb2.size; have HB' := Aside0.mk (HB.out.trans (hb2.mono HB.out.size)); clear HB hb2; have HB := HB'; clear HB'))
      | (go_at_call 55; ((with_reducible refine (when_Civil_at hd0 hd1 HCD.out _).mono ?_); rintro e w2 ⟨rfl, hb2⟩; obtain ⟨hc2, hf2⟩ := bcell hb2; have hz : w.heap.size < w2.heap.size := Nat.lt_of_lt_of_le hz hb2.size; have HB' := Aside0.mk (HB.out.trans (hb2.mono HB.out.size)); clear HB hb2; have HB := HB'; clear HB'))
      | (go_at_call 56; ((with_reducible refine (date_Weekday first hf0 hf1 _).mono ?_); rintro e w2 ⟨rfl, hb2⟩; obtain ⟨hc2, hf2⟩ := bcell hb2; have hz : w.heap.size < w2.heap.size := Nat.lt_of_lt_of_le hz hb2.size; have HB' := Aside0.mk (HB.out.trans (hb2.mono HB.out.size)); clear HB hb2; have HB := HB'; clear HB'))
      | (go_at_call 56; ((with_reducible refine (date_Weekday day hd0 hd1 _).mono ?_); rintro e w2 ⟨rfl, hb2⟩; obtain ⟨hc2, hf2⟩ := bcell hb2; have hz : w.heap.size < w2.heap.size := Nat.lt_of_lt_of_le hz hb2.size; have HB' := Aside0.mk (HB.out.trans (hb2.mono HB.out.size)); clear HB hb2; have HB := HB'; clear HB'))
      | (go_at_call 57; ((with_reducible refine (contains_int A4 c4 l4 _ _ (Kd.C_below HR4.out HB.out) hc4 hl4).mono ?_); rintro e w2 ⟨rfl, hb2⟩; obtain ⟨hc2, hf2⟩ := bcell hb2; have hz : w.heap.size < w2.heap.size := Nat.lt_of_lt_of_le hz hb2.size; have HB' := Aside0.mk (HB.out.trans (hb2.mono HB.out.size)); clear HB hb2; have HB := HB'; clear HB'))
      | (go_at_call 58; ((with_reducible refine (rule_on a0 a1 a2 a3 A4 A5 A6 c4 c5 c6 l4 l5 l6 _ _ (Kd.C_below HR4.out HB.out) hc4 (Kd.C_below HR5.out HB.out) hc5 (Kd.C_below HR6.out HB.out) hc6 hl6).mono ?_); rintro e w2 ⟨rfl, hb2⟩; obtain ⟨hc2, hf2⟩ := bcell hb2; have hz : w.heap.size < w2.heap.size := Nat.lt_of_lt_of_le hz hb2.size; have HB' := Aside0.mk (HB.out.trans (hb2.mono HB.out.size)); clear HB hb2; have HB := HB'; clear HB'))
      | (go_at_call 59; ((with_reducible refine (recur_may a0 a1 a2 a3 A4 A5 A6 c4 c5 c6 l4 l5 l6 y d _ d0 m _ (Kd.C_below HR5.out HB.out) hc5 (Kd.C_below HR6.out HB.out) hc6 hl5 hl6 v1 v2 (by omega) (by omega) v5 v6).mono ?_); rintro e w2 ⟨rfl, hb2⟩; obtain ⟨hc2, hf2⟩ := bcell hb2; have hz : w.heap.size < w2.heap.size := Nat.lt_of_lt_of_le hz hb2.size; have HB' := Aside0.mk (HB.out.trans (hb2.mono HB.out.size)); clear HB hb2; have HB := HB'; clear HB')))
  go_ret
  exact ⟨ret_bool HF.out.symm, HB.out⟩
set_option maxRecDepth 100000 in
set_option maxHeartbeats 4000000 in
theorem recur_match_f2tE (a0 a1 a2 a3 : Int) (A4 A5 A6 : Option Addr) (c4 c5 c6 : Nat) (l4 l5 : List Int) (l6 : List S59) (first day y d y0 d0 : Int) (m m0 : Nat) (w : World)
    (hr4 : Kd.C (Kd.int .i64) w A4 l4.length l4) (hc4 : l4.length ≤ c4) (hr5 : Kd.C (Kd.int .i64) w A5 l5.length l5) (hc5 : l5.length ≤ c5) (hr6 : Kd.C k59 w A6 l6.length l6) (hc6 : l6.length ≤ c6)
    (hl4 : l4.length ≤ 1000000000) (hl5 : l5.length ≤ 1000000000) (hl6 : l6.length ≤ 1000000000)
    (hi0 : 1 ≤ a1) (hi1 : a1 ≤ 1000) (hf0 : 0 ≤ first) (hf1 : first ≤ 2932896) (hd0 : 0 ≤ day) (hd1 : day ≤ 2932896) (hcf : Cal.IsCivil first y0 m0 d0) (hcd : Cal.IsCivil day y m d) (hge : first ≤ day) (e4 : l4 = []) (ef : a0 = 2) (hr : ((day - (day + 3) % 7 - first + (first + 3) % 7) / 7 % a1 == 0) = true) (e6 : l6 ≠ []) (ho : onS l6 ((day + 3) % 7) = true) :
    Calls Tryz.prog 27 #[.agg #[.int .i64 a0, .int .i64 a1, .int .i64 a2, .int .i64 a3, .slice A4 l4.length c4, .slice A5 l5.length c5, .slice A6 l6.length c6], .int .i64 first, .int .i64 day] w fun e w' =>
      e = .returned (.bool (matchS a0 a1 l4 l5 l6 first day y m d y0 m0 d0)) ∧ Below w.heap.size w w' := by
  have hfin : matchS a0 a1 l4 l5 l6 first day y m d y0 m0 d0 = true := by
    unfold matchS
    rw [if_neg (by omega), if_neg (fun h => h.1 e4), if_neg (by omega), if_pos ef, hr, Bool.true_and, if_neg e6, ho]
  have HF := Lib.hid hfin
  clear hfin
  have z4 : decide (0 < l4.length) = false := by rw [e4]; rfl
  have hwk : 0 ≤ day - (day + 3) % 7 - first + (first + 3) % 7 := by omega
  have g1 : (a0 == 1) = false := by rw [ef]; rfl
  have g2 : (a0 == 2) = true := by rw [ef]; rfl
  clear ef
  have p6 : 0 < l6.length := List.length_pos_iff.mpr e6
  have z6 : ((l6.length : Int) == 0) = false := by rw [beq_eq_false_iff_ne]; omega
  have HR4 := Aside0.mk hr4
  have HR5 := Aside0.mk hr5
  have HR6 := Aside0.mk hr6
  have HCF := Aside0.mk hcf
  have HCD := Aside0.mk hcd
  clear hr4 hr5 hr6
  obtain ⟨u1, u2, u3, u4, u5, u6, -⟩ := hcf
  obtain ⟨v1, v2, v3, v4, v5, v6, -⟩ := hcd
  have mlF := mlen_le31 y0 m0
  have mlD := mlen_le31 y m
  have HB := Aside0.mk ((Below.refl w.heap.size w).alloc (Nat.le_refl _) (.cells #[.int .i64 a0, .int .i64 a1, .int .i64 a2, .int .i64 a3, .slice A4 l4.length c4, .slice A5 l5.length c5, .slice A6 l6.length c6] 25))
  have hz : w.heap.size < (w.alloc (.cells #[.int .i64 a0, .int .i64 a1, .int .i64 a2, .int .i64 a3, .slice A4 l4.length c4, .slice A5 l5.length c5, .slice A6 l6.length c6] 25)).heap.size := by simp
  clear e4 e6
  go_enter Tryz.func27, Tryz.ntmps27
  go_wp2_with (first
      | (go_at_call 55; ((with_reducible refine (when_Civil_at hf0 hf1 HCF.out _).mono ?_); rintro e w2 ⟨rfl, hb2⟩; obtain ⟨hc2, hf2⟩ := bcell hb2; have hz : w.heap.size < w2.heap.size := Nat.lt_of_lt_of_le hz hb2.size; have HB' := Aside0.mk (HB.out.trans (hb2.mono HB.out.size)); clear HB hb2; have HB := HB'; clear HB'))
      | (go_at_call 55; ((with_reducible refine (when_Civil_at hd0 hd1 HCD.out _).mono ?_); rintro e w2 ⟨rfl, hb2⟩; obtain ⟨hc2, hf2⟩ := bcell hb2; have hz : w.heap.size < w2.heap.size := Nat.lt_of_lt_of_le hz hb2.size; have HB' := Aside0.mk (HB.out.trans (hb2.mono HB.out.size)); clear HB hb2; have HB := HB'; clear HB'))
      | (go_at_call 56; ((with_reducible refine (date_Weekday first hf0 hf1 _).mono ?_); rintro e w2 ⟨rfl, hb2⟩; obtain ⟨hc2, hf2⟩ := bcell hb2; have hz : w.heap.size < w2.heap.size := Nat.lt_of_lt_of_le hz hb2.size; have HB' := Aside0.mk (HB.out.trans (hb2.mono HB.out.size)); clear HB hb2; have HB := HB'; clear HB'))
      | (go_at_call 56; ((with_reducible refine (date_Weekday day hd0 hd1 _).mono ?_); rintro e w2 ⟨rfl, hb2⟩; obtain ⟨hc2, hf2⟩ := bcell hb2; have hz : w.heap.size < w2.heap.size := Nat.lt_of_lt_of_le hz hb2.size; have HB' := Aside0.mk (HB.out.trans (hb2.mono HB.out.size)); clear HB hb2; have HB := HB'; clear HB'))
      | (go_at_call 57; ((with_reducible refine (contains_int A4 c4 l4 _ _ (Kd.C_below HR4.out HB.out) hc4 hl4).mono ?_); rintro e w2 ⟨rfl, hb2⟩; obtain ⟨hc2, hf2⟩ := bcell hb2; have hz : w.heap.size < w2.heap.size := Nat.lt_of_lt_of_le hz hb2.size; have HB' := Aside0.mk (HB.out.trans (hb2.mono HB.out.size)); clear HB hb2; have HB := HB'; clear HB'))
      | (go_at_call 58; ((with_reducible refine (rule_on a0 a1 a2 a3 A4 A5 A6 c4 c5 c6 l4 l5 l6 _ _ (Kd.C_below HR4.out HB.out) hc4 (Kd.C_below HR5.out HB.out) hc5 (Kd.C_below HR6.out HB.out) hc6 hl6).mono ?_); rintro e w2 ⟨rfl, hb2⟩; obtain ⟨hc2, hf2⟩ := bcell hb2; have hz : w.heap.size < w2.heap.size := Nat.lt_of_lt_of_le hz hb2.size; have HB' := Aside0.mk (HB.out.trans (hb2.mono HB.out.size)); clear HB hb2; have HB := HB'; clear HB'))
      | (go_at_call 59; ((with_reducible refine (recur_may a0 a1 a2 a3 A4 A5 A6 c4 c5 c6 l4 l5 l6 y d _ d0 m _ (Kd.C_below HR5.out HB.out) hc5 (Kd.C_below HR6.out HB.out) hc6 hl5 hl6 v1 v2 (by omega) (by omega) v5 v6).mono ?_); rintro e w2 ⟨rfl, hb2⟩; obtain ⟨hc2, hf2⟩ := bcell hb2; have hz : w.heap.size < w2.heap.size := Nat.lt_of_lt_of_le hz hb2.size; have HB' := Aside0.mk (HB.out.trans (hb2.mono HB.out.size)); clear HB hb2; have HB := HB'; clear HB')))
  go_ret
  exact ⟨ret_bool HF.out.symm, HB.out⟩
set_option maxRecDepth 100000 in
set_option maxHeartbeats 4000000 in
theorem recur_match_f2fE (a0 a1 a2 a3 : Int) (A4 A5 A6 : Option Addr) (c4 c5 c6 : Nat) (l4 l5 : List Int) (l6 : List S59) (first day y d y0 d0 : Int) (m m0 : Nat) (w : World)
    (hr4 : Kd.C (Kd.int .i64) w A4 l4.length l4) (hc4 : l4.length ≤ c4) (hr5 : Kd.C (Kd.int .i64) w A5 l5.length l5) (hc5 : l5.length ≤ c5) (hr6 : Kd.C k59 w A6 l6.length l6) (hc6 : l6.length ≤ c6)
    (hl4 : l4.length ≤ 1000000000) (hl5 : l5.length ≤ 1000000000) (hl6 : l6.length ≤ 1000000000)
    (hi0 : 1 ≤ a1) (hi1 : a1 ≤ 1000) (hf0 : 0 ≤ first) (hf1 : first ≤ 2932896) (hd0 : 0 ≤ day) (hd1 : day ≤ 2932896) (hcf : Cal.IsCivil first y0 m0 d0) (hcd : Cal.IsCivil day y m d) (hge : first ≤ day) (e4 : l4 = []) (ef : a0 = 2) (hr : ((day - (day + 3) % 7 - first + (first + 3) % 7) / 7 % a1 == 0) = true) (e6 : l6 ≠ []) (ho : onS l6 ((day + 3) % 7) = false) :
    Calls Tryz.prog 27 #[.agg #[.int .i64 a0, .int .i64 a1, .int .i64 a2, .int .i64 a3, .slice A4 l4.length c4, .slice A5 l5.length c5, .slice A6 l6.length c6], .int .i64 first, .int .i64 day] w fun e w' =>
      e = .returned (.bool (matchS a0 a1 l4 l5 l6 first day y m d y0 m0 d0)) ∧ Below w.heap.size w w' := by
  have hfin : matchS a0 a1 l4 l5 l6 first day y m d y0 m0 d0 = false := by
    unfold matchS
    rw [if_neg (by omega), if_neg (fun h => h.1 e4), if_neg (by omega), if_pos ef, hr, Bool.true_and, if_neg e6, ho]
  have HF := Lib.hid hfin
  clear hfin
  have z4 : decide (0 < l4.length) = false := by rw [e4]; rfl
  have hwk : 0 ≤ day - (day + 3) % 7 - first + (first + 3) % 7 := by omega
  have g1 : (a0 == 1) = false := by rw [ef]; rfl
  have g2 : (a0 == 2) = true := by rw [ef]; rfl
  clear ef
  have p6 : 0 < l6.length := List.length_pos_iff.mpr e6
  have z6 : ((l6.length : Int) == 0) = false := by rw [beq_eq_false_iff_ne]; omega
  have HR4 := Aside0.mk hr4
  have HR5 := Aside0.mk hr5
  have HR6 := Aside0.mk hr6
  have HCF := Aside0.mk hcf
  have HCD := Aside0.mk hcd
  clear hr4 hr5 hr6
  obtain ⟨u1, u2, u3, u4, u5, u6, -⟩ := hcf
  obtain ⟨v1, v2, v3, v4, v5, v6, -⟩ := hcd
  have mlF := mlen_le31 y0 m0
  have mlD := mlen_le31 y m
  have HB := Aside0.mk ((Below.refl w.heap.size w).alloc (Nat.le_refl _) (.cells #[.int .i64 a0, .int .i64 a1, .int .i64 a2, .int .i64 a3, .slice A4 l4.length c4, .slice A5 l5.length c5, .slice A6 l6.length c6] 25))
  have hz : w.heap.size < (w.alloc (.cells #[.int .i64 a0, .int .i64 a1, .int .i64 a2, .int .i64 a3, .slice A4 l4.length c4, .slice A5 l5.length c5, .slice A6 l6.length c6] 25)).heap.size := by simp
  clear e4 e6
  go_enter Tryz.func27, Tryz.ntmps27
  go_wp2_with (first
      | (go_at_call 55; ((with_reducible refine (when_Civil_at hf0 hf1 HCF.out _).mono ?_); rintro e w2 ⟨rfl, hb2⟩; obtain ⟨hc2, hf2⟩ := bcell hb2; have hz : w.heap.size < w2.heap.size := Nat.lt_of_lt_of_le hz hb2.size; have HB' := Aside0.mk (HB.out.trans (hb2.mono HB.out.size)); clear HB hb2; have HB := HB'; clear HB'))
      | (go_at_call 55; ((with_reducible refine (when_Civil_at hd0 hd1 HCD.out _).mono ?_); rintro e w2 ⟨rfl, hb2⟩; obtain ⟨hc2, hf2⟩ := bcell hb2; have hz : w.heap.size < w2.heap.size := Nat.lt_of_lt_of_le hz hb2.size; have HB' := Aside0.mk (HB.out.trans (hb2.mono HB.out.size)); clear HB hb2; have HB := HB'; clear HB'))
      | (go_at_call 56; ((with_reducible refine (date_Weekday first hf0 hf1 _).mono ?_); rintro e w2 ⟨rfl, hb2⟩; obtain ⟨hc2, hf2⟩ := bcell hb2; have hz : w.heap.size < w2.heap.size := Nat.lt_of_lt_of_le hz hb2.size; have HB' := Aside0.mk (HB.out.trans (hb2.mono HB.out.size)); clear HB hb2; have HB := HB'; clear HB'))
      | (go_at_call 56; ((with_reducible refine (date_Weekday day hd0 hd1 _).mono ?_); rintro e w2 ⟨rfl, hb2⟩; obtain ⟨hc2, hf2⟩ := bcell hb2; have hz : w.heap.size < w2.heap.size := Nat.lt_of_lt_of_le hz hb2.size; have HB' := Aside0.mk (HB.out.trans (hb2.mono HB.out.size)); clear HB hb2; have HB := HB'; clear HB'))
      | (go_at_call 57; ((with_reducible refine (contains_int A4 c4 l4 _ _ (Kd.C_below HR4.out HB.out) hc4 hl4).mono ?_); rintro e w2 ⟨rfl, hb2⟩; obtain ⟨hc2, hf2⟩ := bcell hb2; have hz : w.heap.size < w2.heap.size := Nat.lt_of_lt_of_le hz hb2.size; have HB' := Aside0.mk (HB.out.trans (hb2.mono HB.out.size)); clear HB hb2; have HB := HB'; clear HB'))
      | (go_at_call 58; ((with_reducible refine (rule_on a0 a1 a2 a3 A4 A5 A6 c4 c5 c6 l4 l5 l6 _ _ (Kd.C_below HR4.out HB.out) hc4 (Kd.C_below HR5.out HB.out) hc5 (Kd.C_below HR6.out HB.out) hc6 hl6).mono ?_); rintro e w2 ⟨rfl, hb2⟩; obtain ⟨hc2, hf2⟩ := bcell hb2; have hz : w.heap.size < w2.heap.size := Nat.lt_of_lt_of_le hz hb2.size; have HB' := Aside0.mk (HB.out.trans (hb2.mono HB.out.size)); clear HB hb2; have HB := HB'; clear HB'))
      | (go_at_call 59; ((with_reducible refine (recur_may a0 a1 a2 a3 A4 A5 A6 c4 c5 c6 l4 l5 l6 y d _ d0 m _ (Kd.C_below HR5.out HB.out) hc5 (Kd.C_below HR6.out HB.out) hc6 hl5 hl6 v1 v2 (by omega) (by omega) v5 v6).mono ?_); rintro e w2 ⟨rfl, hb2⟩; obtain ⟨hc2, hf2⟩ := bcell hb2; have hz : w.heap.size < w2.heap.size := Nat.lt_of_lt_of_le hz hb2.size; have HB' := Aside0.mk (HB.out.trans (hb2.mono HB.out.size)); clear HB hb2; have HB := HB'; clear HB')))
  go_ret
  exact ⟨ret_bool HF.out.symm, HB.out⟩
set_option maxRecDepth 100000 in
set_option maxHeartbeats 4000000 in
theorem recur_match_f3aE (a0 a1 a2 a3 : Int) (A4 A5 A6 : Option Addr) (c4 c5 c6 : Nat) (l4 l5 : List Int) (l6 : List S59) (first day y d y0 d0 : Int) (m m0 : Nat) (w : World)
    (hr4 : Kd.C (Kd.int .i64) w A4 l4.length l4) (hc4 : l4.length ≤ c4) (hr5 : Kd.C (Kd.int .i64) w A5 l5.length l5) (hc5 : l5.length ≤ c5) (hr6 : Kd.C k59 w A6 l6.length l6) (hc6 : l6.length ≤ c6)
    (hl4 : l4.length ≤ 1000000000) (hl5 : l5.length ≤ 1000000000) (hl6 : l6.length ≤ 1000000000)
    (hi0 : 1 ≤ a1) (hi1 : a1 ≤ 1000) (hf0 : 0 ≤ first) (hf1 : first ≤ 2932896) (hd0 : 0 ≤ day) (hd1 : day ≤ 2932896) (hcf : Cal.IsCivil first y0 m0 d0) (hcd : Cal.IsCivil day y m d) (hge : first ≤ day) (e4 : l4 = []) (ef : a0 = 3) (hr : ((12 * (y - y0) + (m : Int) - (m0 : Int)) % a1 == 0) = true) :
    Calls Tryz.prog 27 #[.agg #[.int .i64 a0, .int .i64 a1, .int .i64 a2, .int .i64 a3, .slice A4 l4.length c4, .slice A5 l5.length c5, .slice A6 l6.length c6], .int .i64 first, .int .i64 day] w fun e w' =>
      e = .returned (.bool (matchS a0 a1 l4 l5 l6 first day y m d y0 m0 d0)) ∧ Below w.heap.size w w' := by
  have hfin : matchS a0 a1 l4 l5 l6 first day y m d y0 m0 d0 = mayS l5 l6 (Cal.mlen y m) d ((day + 3) % 7) d0 := by
    unfold matchS
    rw [if_neg (by omega), if_neg (fun h => h.1 e4), if_neg (by omega), if_neg (by omega), if_pos ef, hr, Bool.true_and]
  have HF := Lib.hid hfin
  clear hfin
  have z4 : decide (0 < l4.length) = false := by rw [e4]; rfl
  obtain ⟨hy, hm12⟩ := hcf.mono hcd hge
  have hmm : 0 ≤ 12 * (y - y0) + (m : Int) - (m0 : Int) := by omega
  clear hm12
  have g1 : (a0 == 1) = false := by rw [ef]; rfl
  have g2 : (a0 == 2) = false := by rw [ef]; rfl
  have g3 : (a0 == 3) = true := by rw [ef]; rfl
  clear ef
  have HR4 := Aside0.mk hr4
  have HR5 := Aside0.mk hr5
  have HR6 := Aside0.mk hr6
  have HCF := Aside0.mk hcf
  have HCD := Aside0.mk hcd
  clear hr4 hr5 hr6
  obtain ⟨u1, u2, u3, u4, u5, u6, -⟩ := hcf
  obtain ⟨v1, v2, v3, v4, v5, v6, -⟩ := hcd
  have mlF := mlen_le31 y0 m0
  have mlD := mlen_le31 y m
  have HB := Aside0.mk ((Below.refl w.heap.size w).alloc (Nat.le_refl _) (.cells #[.int .i64 a0, .int .i64 a1, .int .i64 a2, .int .i64 a3, .slice A4 l4.length c4, .slice A5 l5.length c5, .slice A6 l6.length c6] 25))
  have hz : w.heap.size < (w.alloc (.cells #[.int .i64 a0, .int .i64 a1, .int .i64 a2, .int .i64 a3, .slice A4 l4.length c4, .slice A5 l5.length c5, .slice A6 l6.length c6] 25)).heap.size := by simp
  clear e4
  go_enter Tryz.func27, Tryz.ntmps27
  go_wp2_with (first
      | (go_at_call 55; ((with_reducible refine (when_Civil_at hf0 hf1 HCF.out _).mono ?_); rintro e w2 ⟨rfl, hb2⟩; obtain ⟨hc2, hf2⟩ := bcell hb2; have hz : w.heap.size < w2.heap.size := Nat.lt_of_lt_of_le hz hb2.size; have HB' := Aside0.mk (HB.out.trans (hb2.mono HB.out.size)); clear HB hb2; have HB := HB'; clear HB'))
      | (go_at_call 55; ((with_reducible refine (when_Civil_at hd0 hd1 HCD.out _).mono ?_); rintro e w2 ⟨rfl, hb2⟩; obtain ⟨hc2, hf2⟩ := bcell hb2; have hz : w.heap.size < w2.heap.size := Nat.lt_of_lt_of_le hz hb2.size; have HB' := Aside0.mk (HB.out.trans (hb2.mono HB.out.size)); clear HB hb2; have HB := HB'; clear HB'))
      | (go_at_call 56; ((with_reducible refine (date_Weekday first hf0 hf1 _).mono ?_); rintro e w2 ⟨rfl, hb2⟩; obtain ⟨hc2, hf2⟩ := bcell hb2; have hz : w.heap.size < w2.heap.size := Nat.lt_of_lt_of_le hz hb2.size; have HB' := Aside0.mk (HB.out.trans (hb2.mono HB.out.size)); clear HB hb2; have HB := HB'; clear HB'))
      | (go_at_call 56; ((with_reducible refine (date_Weekday day hd0 hd1 _).mono ?_); rintro e w2 ⟨rfl, hb2⟩; obtain ⟨hc2, hf2⟩ := bcell hb2; have hz : w.heap.size < w2.heap.size := Nat.lt_of_lt_of_le hz hb2.size; have HB' := Aside0.mk (HB.out.trans (hb2.mono HB.out.size)); clear HB hb2; have HB := HB'; clear HB'))
      | (go_at_call 57; ((with_reducible refine (contains_int A4 c4 l4 _ _ (Kd.C_below HR4.out HB.out) hc4 hl4).mono ?_); rintro e w2 ⟨rfl, hb2⟩; obtain ⟨hc2, hf2⟩ := bcell hb2; have hz : w.heap.size < w2.heap.size := Nat.lt_of_lt_of_le hz hb2.size; have HB' := Aside0.mk (HB.out.trans (hb2.mono HB.out.size)); clear HB hb2; have HB := HB'; clear HB'))
      | (go_at_call 58; ((with_reducible refine (rule_on a0 a1 a2 a3 A4 A5 A6 c4 c5 c6 l4 l5 l6 _ _ (Kd.C_below HR4.out HB.out) hc4 (Kd.C_below HR5.out HB.out) hc5 (Kd.C_below HR6.out HB.out) hc6 hl6).mono ?_); rintro e w2 ⟨rfl, hb2⟩; obtain ⟨hc2, hf2⟩ := bcell hb2; have hz : w.heap.size < w2.heap.size := Nat.lt_of_lt_of_le hz hb2.size; have HB' := Aside0.mk (HB.out.trans (hb2.mono HB.out.size)); clear HB hb2; have HB := HB'; clear HB'))
      | (go_at_call 59; ((with_reducible refine (recur_may a0 a1 a2 a3 A4 A5 A6 c4 c5 c6 l4 l5 l6 y d _ d0 m _ (Kd.C_below HR5.out HB.out) hc5 (Kd.C_below HR6.out HB.out) hc6 hl5 hl6 v1 v2 (by omega) (by omega) v5 v6).mono ?_); rintro e w2 ⟨rfl, hb2⟩; obtain ⟨hc2, hf2⟩ := bcell hb2; have hz : w.heap.size < w2.heap.size := Nat.lt_of_lt_of_le hz hb2.size; have HB' := Aside0.mk (HB.out.trans (hb2.mono HB.out.size)); clear HB hb2; have HB := HB'; clear HB')))
  go_ret
  exact ⟨ret_bool HF.out.symm, HB.out⟩
set_option maxRecDepth 100000 in
set_option maxHeartbeats 4000000 in
theorem recur_match_f3bE (a0 a1 a2 a3 : Int) (A4 A5 A6 : Option Addr) (c4 c5 c6 : Nat) (l4 l5 : List Int) (l6 : List S59) (first day y d y0 d0 : Int) (m m0 : Nat) (w : World)
    (hr4 : Kd.C (Kd.int .i64) w A4 l4.length l4) (hc4 : l4.length ≤ c4) (hr5 : Kd.C (Kd.int .i64) w A5 l5.length l5) (hc5 : l5.length ≤ c5) (hr6 : Kd.C k59 w A6 l6.length l6) (hc6 : l6.length ≤ c6)
    (hl4 : l4.length ≤ 1000000000) (hl5 : l5.length ≤ 1000000000) (hl6 : l6.length ≤ 1000000000)
    (hi0 : 1 ≤ a1) (hi1 : a1 ≤ 1000) (hf0 : 0 ≤ first) (hf1 : first ≤ 2932896) (hd0 : 0 ≤ day) (hd1 : day ≤ 2932896) (hcf : Cal.IsCivil first y0 m0 d0) (hcd : Cal.IsCivil day y m d) (hge : first ≤ day) (e4 : l4 = []) (ef : a0 = 3) (hr : ((12 * (y - y0) + (m : Int) - (m0 : Int)) % a1 == 0) = false) :
    Calls Tryz.prog 27 #[.agg #[.int .i64 a0, .int .i64 a1, .int .i64 a2, .int .i64 a3, .slice A4 l4.length c4, .slice A5 l5.length c5, .slice A6 l6.length c6], .int .i64 first, .int .i64 day] w fun e w' =>
      e = .returned (.bool (matchS a0 a1 l4 l5 l6 first day y m d y0 m0 d0)) ∧ Below w.heap.size w w' := by
  have hfin : matchS a0 a1 l4 l5 l6 first day y m d y0 m0 d0 = false := by
    unfold matchS
    rw [if_neg (by omega), if_neg (fun h => h.1 e4), if_neg (by omega), if_neg (by omega), if_pos ef, hr, Bool.false_and]
  have HF := Lib.hid hfin
  clear hfin
  have z4 : decide (0 < l4.length) = false := by rw [e4]; rfl
  obtain ⟨hy, hm12⟩ := hcf.mono hcd hge
  have hmm : 0 ≤ 12 * (y - y0) + (m : Int) - (m0 : Int) := by omega
  clear hm12
  have g1 : (a0 == 1) = false := by rw [ef]; rfl
  have g2 : (a0 == 2) = false := by rw [ef]; rfl
  have g3 : (a0 == 3) = true := by rw [ef]; rfl
  clear ef
  have HR4 := Aside0.mk hr4
  have HR5 := Aside0.mk hr5
  have HR6 := Aside0.mk hr6
  have HCF := Aside0.mk hcf
  have HCD := Aside0.mk hcd
  clear hr4 hr5 hr6
  obtain ⟨u1, u2, u3, u4, u5, u6, -⟩ := hcf
  obtain ⟨v1, v2, v3, v4, v5, v6, -⟩ := hcd
  have mlF := mlen_le31 y0 m0
  have mlD := mlen_le31 y m
  have HB := Aside0.mk ((Below.refl w.heap.size w).alloc (Nat.le_refl _) (.cells #[.int .i64 a0, .int .i64 a1, .int .i64 a2, .int .i64 a3, .slice A4 l4.length c4, .slice A5 l5.length c5, .slice A6 l6.length c6] 25))
  have hz : w.heap.size < (w.alloc (.cells #[.int .i64 a0, .int .i64 a1, .int .i64 a2, .int .i64 a3, .slice A4 l4.length c4, .slice A5 l5.length c5, .slice A6 l6.length c6] 25)).heap.size := by simp
  clear e4
  go_enter Tryz.func27, Tryz.ntmps27
  go_wp2_with (first
      | (go_at_call 55; ((with_reducible refine (when_Civil_at hf0 hf1 HCF.out _).mono ?_); rintro e w2 ⟨rfl, hb2⟩; obtain ⟨hc2, hf2⟩ := bcell hb2; have hz : w.heap.size < w2.heap.size := Nat.lt_of_lt_of_le hz hb2.size; have HB' := Aside0.mk (HB.out.trans (hb2.mono HB.out.size)); clear HB hb2; have HB := HB'; clear HB'))
      | (go_at_call 55; ((with_reducible refine (when_Civil_at hd0 hd1 HCD.out _).mono ?_); rintro e w2 ⟨rfl, hb2⟩; obtain ⟨hc2, hf2⟩ := bcell hb2; have hz : w.heap.size < w2.heap.size := Nat.lt_of_lt_of_le hz hb2.size; have HB' := Aside0.mk (HB.out.trans (hb2.mono HB.out.size)); clear HB hb2; have HB := HB'; clear HB'))
      | (go_at_call 56; ((with_reducible refine (date_Weekday first hf0 hf1 _).mono ?_); rintro e w2 ⟨rfl, hb2⟩; obtain ⟨hc2, hf2⟩ := bcell hb2; have hz : w.heap.size < w2.heap.size := Nat.lt_of_lt_of_le hz hb2.size; have HB' := Aside0.mk (HB.out.trans (hb2.mono HB.out.size)); clear HB hb2; have HB := HB'; clear HB'))
      | (go_at_call 56; ((with_reducible refine (date_Weekday day hd0 hd1 _).mono ?_); rintro e w2 ⟨rfl, hb2⟩; obtain ⟨hc2, hf2⟩ := bcell hb2; have hz : w.heap.size < w2.heap.size := Nat.lt_of_lt_of_le hz hb2.size; have HB' := Aside0.mk (HB.out.trans (hb2.mono HB.out.size)); clear HB hb2; have HB := HB'; clear HB'))
      | (go_at_call 57; ((with_reducible refine (contains_int A4 c4 l4 _ _ (Kd.C_below HR4.out HB.out) hc4 hl4).mono ?_); rintro e w2 ⟨rfl, hb2⟩; obtain ⟨hc2, hf2⟩ := bcell hb2; have hz : w.heap.size < w2.heap.size := Nat.lt_of_lt_of_le hz hb2.size; have HB' := Aside0.mk (HB.out.trans (hb2.mono HB.out.size)); clear HB hb2; have HB := HB'; clear HB'))
      | (go_at_call 58; ((with_reducible refine (rule_on a0 a1 a2 a3 A4 A5 A6 c4 c5 c6 l4 l5 l6 _ _ (Kd.C_below HR4.out HB.out) hc4 (Kd.C_below HR5.out HB.out) hc5 (Kd.C_below HR6.out HB.out) hc6 hl6).mono ?_); rintro e w2 ⟨rfl, hb2⟩; obtain ⟨hc2, hf2⟩ := bcell hb2; have hz : w.heap.size < w2.heap.size := Nat.lt_of_lt_of_le hz hb2.size; have HB' := Aside0.mk (HB.out.trans (hb2.mono HB.out.size)); clear HB hb2; have HB := HB'; clear HB'))
      | (go_at_call 59; ((with_reducible refine (recur_may a0 a1 a2 a3 A4 A5 A6 c4 c5 c6 l4 l5 l6 y d _ d0 m _ (Kd.C_below HR5.out HB.out) hc5 (Kd.C_below HR6.out HB.out) hc6 hl5 hl6 v1 v2 (by omega) (by omega) v5 v6).mono ?_); rintro e w2 ⟨rfl, hb2⟩; obtain ⟨hc2, hf2⟩ := bcell hb2; have hz : w.heap.size < w2.heap.size := Nat.lt_of_lt_of_le hz hb2.size; have HB' := Aside0.mk (HB.out.trans (hb2.mono HB.out.size)); clear HB hb2; have HB := HB'; clear HB')))
  go_ret
  exact ⟨ret_bool HF.out.symm, HB.out⟩
set_option maxRecDepth 100000 in
set_option maxHeartbeats 4000000 in
theorem recur_match_f4bE (a0 a1 a2 a3 : Int) (A4 A5 A6 : Option Addr) (c4 c5 c6 : Nat) (l4 l5 : List Int) (l6 : List S59) (first day y d y0 d0 : Int) (m m0 : Nat) (w : World)
    (hr4 : Kd.C (Kd.int .i64) w A4 l4.length l4) (hc4 : l4.length ≤ c4) (hr5 : Kd.C (Kd.int .i64) w A5 l5.length l5) (hc5 : l5.length ≤ c5) (hr6 : Kd.C k59 w A6 l6.length l6) (hc6 : l6.length ≤ c6)
    (hl4 : l4.length ≤ 1000000000) (hl5 : l5.length ≤ 1000000000) (hl6 : l6.length ≤ 1000000000)
    (hi0 : 1 ≤ a1) (hi1 : a1 ≤ 1000) (hf0 : 0 ≤ first) (hf1 : first ≤ 2932896) (hd0 : 0 ≤ day) (hd1 : day ≤ 2932896) (hcf : Cal.IsCivil first y0 m0 d0) (hcd : Cal.IsCivil day y m d) (hge : first ≤ day) (e4 : l4 = []) (ef : a0 = 4) (hr : ((y - y0) % a1 == 0) = false) :
    Calls Tryz.prog 27 #[.agg #[.int .i64 a0, .int .i64 a1, .int .i64 a2, .int .i64 a3, .slice A4 l4.length c4, .slice A5 l5.length c5, .slice A6 l6.length c6], .int .i64 first, .int .i64 day] w fun e w' =>
      e = .returned (.bool (matchS a0 a1 l4 l5 l6 first day y m d y0 m0 d0)) ∧ Below w.heap.size w w' := by
  have hfin : matchS a0 a1 l4 l5 l6 first day y m d y0 m0 d0 = false := by
    unfold matchS
    rw [if_neg (by omega), if_neg (fun h => h.1 e4), if_neg (by omega), if_neg (by omega), if_neg (by omega), hr, Bool.false_and, Bool.false_and]
  have HF := Lib.hid hfin
  clear hfin
  have z4 : decide (0 < l4.length) = false := by rw [e4]; rfl
  obtain ⟨hy, hm12⟩ := hcf.mono hcd hge
  clear hm12
  have g1 : (a0 == 1) = false := by rw [ef]; rfl
  have g2 : (a0 == 2) = false := by rw [ef]; rfl
  have g3 : (a0 == 3) = false := by rw [ef]; rfl
  clear ef
  have HR4 := Aside0.mk hr4
  have HR5 := Aside0.mk hr5
  have HR6 := Aside0.mk hr6
  have HCF := Aside0.mk hcf
  have HCD := Aside0.mk hcd
  clear hr4 hr5 hr6
  obtain ⟨u1, u2, u3, u4, u5, u6, -⟩ := hcf
  obtain ⟨v1, v2, v3, v4, v5, v6, -⟩ := hcd
  have mlF := mlen_le31 y0 m0
  have mlD := mlen_le31 y m
  have HB := Aside0.mk ((Below.refl w.heap.size w).alloc (Nat.le_refl _) (.cells #[.int .i64 a0, .int .i64 a1, .int .i64 a2, .int .i64 a3, .slice A4 l4.length c4, .slice A5 l5.length c5, .slice A6 l6.length c6] 25))
  have hz : w.heap.size < (w.alloc (.cells #[.int .i64 a0, .int .i64 a1, .int .i64 a2, .int .i64 a3, .slice A4 l4.length c4, .slice A5 l5.length c5, .slice A6 l6.length c6] 25)).heap.size := by simp
  clear e4
  go_enter Tryz.func27, Tryz.ntmps27
  go_wp2_with (first
      | (go_at_call 55; ((with_reducible refine (when_Civil_at hf0 hf1 HCF.out _).mono ?_); rintro e w2 ⟨rfl, hb2⟩; obtain ⟨hc2, hf2⟩ := bcell hb2; have hz : w.heap.size < w2.heap.size := Nat.lt_of_lt_of_le hz hb2.size; have HB' := Aside0.mk (HB.out.trans (hb2.mono HB.out.size)); clear HB hb2; have HB := HB'; clear HB'))
      | (go_at_call 55; ((with_reducible refine (when_Civil_at hd0 hd1 HCD.out _).mono ?_); rintro e w2 ⟨rfl, hb2⟩; obtain ⟨hc2, hf2⟩ := bcell hb2; have hz : w.heap.size < w2.heap.size := Nat.lt_of_lt_of_le hz hb2.size; have HB' := Aside0.mk (HB.out.trans (hb2.mono HB.out.size)); clear HB hb2; have HB := HB'; clear HB'))
      | (go_at_call 56; ((with_reducible refine (date_Weekday first hf0 hf1 _).mono ?_); rintro e w2 ⟨rfl, hb2⟩; obtain ⟨hc2, hf2⟩ := bcell hb2; have hz : w.heap.size < w2.heap.size := Nat.lt_of_lt_of_le hz hb2.size; have HB' := Aside0.mk (HB.out.trans (hb2.mono HB.out.size)); clear HB hb2; have HB := HB'; clear HB'))
      | (go_at_call 56; ((with_reducible refine (date_Weekday day hd0 hd1 _).mono ?_); rintro e w2 ⟨rfl, hb2⟩; obtain ⟨hc2, hf2⟩ := bcell hb2; have hz : w.heap.size < w2.heap.size := Nat.lt_of_lt_of_le hz hb2.size; have HB' := Aside0.mk (HB.out.trans (hb2.mono HB.out.size)); clear HB hb2; have HB := HB'; clear HB'))
      | (go_at_call 57; ((with_reducible refine (contains_int A4 c4 l4 _ _ (Kd.C_below HR4.out HB.out) hc4 hl4).mono ?_); rintro e w2 ⟨rfl, hb2⟩; obtain ⟨hc2, hf2⟩ := bcell hb2; have hz : w.heap.size < w2.heap.size := Nat.lt_of_lt_of_le hz hb2.size; have HB' := Aside0.mk (HB.out.trans (hb2.mono HB.out.size)); clear HB hb2; have HB := HB'; clear HB'))
      | (go_at_call 58; ((with_reducible refine (rule_on a0 a1 a2 a3 A4 A5 A6 c4 c5 c6 l4 l5 l6 _ _ (Kd.C_below HR4.out HB.out) hc4 (Kd.C_below HR5.out HB.out) hc5 (Kd.C_below HR6.out HB.out) hc6 hl6).mono ?_); rintro e w2 ⟨rfl, hb2⟩; obtain ⟨hc2, hf2⟩ := bcell hb2; have hz : w.heap.size < w2.heap.size := Nat.lt_of_lt_of_le hz hb2.size; have HB' := Aside0.mk (HB.out.trans (hb2.mono HB.out.size)); clear HB hb2; have HB := HB'; clear HB'))
      | (go_at_call 59; ((with_reducible refine (recur_may a0 a1 a2 a3 A4 A5 A6 c4 c5 c6 l4 l5 l6 y d _ d0 m _ (Kd.C_below HR5.out HB.out) hc5 (Kd.C_below HR6.out HB.out) hc6 hl5 hl6 v1 v2 (by omega) (by omega) v5 v6).mono ?_); rintro e w2 ⟨rfl, hb2⟩; obtain ⟨hc2, hf2⟩ := bcell hb2; have hz : w.heap.size < w2.heap.size := Nat.lt_of_lt_of_le hz hb2.size; have HB' := Aside0.mk (HB.out.trans (hb2.mono HB.out.size)); clear HB hb2; have HB := HB'; clear HB')))
  go_ret
  exact ⟨ret_bool HF.out.symm, HB.out⟩
set_option maxRecDepth 100000 in
set_option maxHeartbeats 4000000 in
theorem recur_match_f4tE (a0 a1 a2 a3 : Int) (A4 A5 A6 : Option Addr) (c4 c5 c6 : Nat) (l4 l5 : List Int) (l6 : List S59) (first day y d y0 d0 : Int) (m m0 : Nat) (w : World)
    (hr4 : Kd.C (Kd.int .i64) w A4 l4.length l4) (hc4 : l4.length ≤ c4) (hr5 : Kd.C (Kd.int .i64) w A5 l5.length l5) (hc5 : l5.length ≤ c5) (hr6 : Kd.C k59 w A6 l6.length l6) (hc6 : l6.length ≤ c6)
    (hl4 : l4.length ≤ 1000000000) (hl5 : l5.length ≤ 1000000000) (hl6 : l6.length ≤ 1000000000)
    (hi0 : 1 ≤ a1) (hi1 : a1 ≤ 1000) (hf0 : 0 ≤ first) (hf1 : first ≤ 2932896) (hd0 : 0 ≤ day) (hd1 : day ≤ 2932896) (hcf : Cal.IsCivil first y0 m0 d0) (hcd : Cal.IsCivil day y m d) (hge : first ≤ day) (e4 : l4 = []) (ef : a0 = 4) (hr : ((y - y0) % a1 == 0) = true) (he : ((m : Int) == (m0 : Int)) = true) :
    Calls Tryz.prog 27 #[.agg #[.int .i64 a0, .int .i64 a1, .int .i64 a2, .int .i64 a3, .slice A4 l4.length c4, .slice A5 l5.length c5, .slice A6 l6.length c6], .int .i64 first, .int .i64 day] w fun e w' =>
      e = .returned (.bool (matchS a0 a1 l4 l5 l6 first day y m d y0 m0 d0)) ∧ Below w.heap.size w w' := by
  have hfin : matchS a0 a1 l4 l5 l6 first day y m d y0 m0 d0 = mayS l5 l6 (Cal.mlen y m) d ((day + 3) % 7) d0 := by
    unfold matchS
    rw [if_neg (by omega), if_neg (fun h => h.1 e4), if_neg (by omega), if_neg (by omega), if_neg (by omega), hr, Bool.true_and, he, e4]; simp
  have HF := Lib.hid hfin
  clear hfin
  have z4 : decide (0 < l4.length) = false := by rw [e4]; rfl
  obtain ⟨hy, hm12⟩ := hcf.mono hcd hge
  clear hm12
  have g1 : (a0 == 1) = false := by rw [ef]; rfl
  have g2 : (a0 == 2) = false := by rw [ef]; rfl
  have g3 : (a0 == 3) = false := by rw [ef]; rfl
  clear ef
  have HR4 := Aside0.mk hr4
  have HR5 := Aside0.mk hr5
  have HR6 := Aside0.mk hr6
  have HCF := Aside0.mk hcf
  have HCD := Aside0.mk hcd
  clear hr4 hr5 hr6
  obtain ⟨u1, u2, u3, u4, u5, u6, -⟩ := hcf
  obtain ⟨v1, v2, v3, v4, v5, v6, -⟩ := hcd
  have mlF := mlen_le31 y0 m0
  have mlD := mlen_le31 y m
  have HB := Aside0.mk ((Below.refl w.heap.size w).alloc (Nat.le_refl _) (.cells #[.int .i64 a0, .int .i64 a1, .int .i64 a2, .int .i64 a3, .slice A4 l4.length c4, .slice A5 l5.length c5, .slice A6 l6.length c6] 25))
  have hz : w.heap.size < (w.alloc (.cells #[.int .i64 a0, .int .i64 a1, .int .i64 a2, .int .i64 a3, .slice A4 l4.length c4, .slice A5 l5.length c5, .slice A6 l6.length c6] 25)).heap.size := by simp
  clear e4
  go_enter Tryz.func27, Tryz.ntmps27
  go_wp2_with (first
      | (go_at_call 55; ((with_reducible refine (when_Civil_at hf0 hf1 HCF.out _).mono ?_); rintro e w2 ⟨rfl, hb2⟩; obtain ⟨hc2, hf2⟩ := bcell hb2; have hz : w.heap.size < w2.heap.size := Nat.lt_of_lt_of_le hz hb2.size; have HB' := Aside0.mk (HB.out.trans (hb2.mono HB.out.size)); clear HB hb2; have HB := HB'; clear HB'))
      | (go_at_call 55; ((with_reducible refine (when_Civil_at hd0 hd1 HCD.out _).mono ?_); rintro e w2 ⟨rfl, hb2⟩; obtain ⟨hc2, hf2⟩ := bcell hb2; have hz : w.heap.size < w2.heap.size := Nat.lt_of_lt_of_le hz hb2.size; have HB' := Aside0.mk (HB.out.trans (hb2.mono HB.out.size)); clear HB hb2; have HB := HB'; clear HB'))
      | (go_at_call 56; ((with_reducible refine (date_Weekday first hf0 hf1 _).mono ?_); rintro e w2 ⟨rfl, hb2⟩; obtain ⟨hc2, hf2⟩ := bcell hb2; have hz : w.heap.size < w2.heap.size := Nat.lt_of_lt_of_le hz hb2.size; have HB' := Aside0.mk (HB.out.trans (hb2.mono HB.out.size)); clear HB hb2; have HB := HB'; clear HB'))
      | (go_at_call 56; ((with_reducible refine (date_Weekday day hd0 hd1 _).mono ?_); rintro e w2 ⟨rfl, hb2⟩; obtain ⟨hc2, hf2⟩ := bcell hb2; have hz : w.heap.size < w2.heap.size := Nat.lt_of_lt_of_le hz hb2.size; have HB' := Aside0.mk (HB.out.trans (hb2.mono HB.out.size)); clear HB hb2; have HB := HB'; clear HB'))
      | (go_at_call 57; ((with_reducible refine (contains_int A4 c4 l4 _ _ (Kd.C_below HR4.out HB.out) hc4 hl4).mono ?_); rintro e w2 ⟨rfl, hb2⟩; obtain ⟨hc2, hf2⟩ := bcell hb2; have hz : w.heap.size < w2.heap.size := Nat.lt_of_lt_of_le hz hb2.size; have HB' := Aside0.mk (HB.out.trans (hb2.mono HB.out.size)); clear HB hb2; have HB := HB'; clear HB'))
      | (go_at_call 58; ((with_reducible refine (rule_on a0 a1 a2 a3 A4 A5 A6 c4 c5 c6 l4 l5 l6 _ _ (Kd.C_below HR4.out HB.out) hc4 (Kd.C_below HR5.out HB.out) hc5 (Kd.C_below HR6.out HB.out) hc6 hl6).mono ?_); rintro e w2 ⟨rfl, hb2⟩; obtain ⟨hc2, hf2⟩ := bcell hb2; have hz : w.heap.size < w2.heap.size := Nat.lt_of_lt_of_le hz hb2.size; have HB' := Aside0.mk (HB.out.trans (hb2.mono HB.out.size)); clear HB hb2; have HB := HB'; clear HB'))
      | (go_at_call 59; ((with_reducible refine (recur_may a0 a1 a2 a3 A4 A5 A6 c4 c5 c6 l4 l5 l6 y d _ d0 m _ (Kd.C_below HR5.out HB.out) hc5 (Kd.C_below HR6.out HB.out) hc6 hl5 hl6 v1 v2 (by omega) (by omega) v5 v6).mono ?_); rintro e w2 ⟨rfl, hb2⟩; obtain ⟨hc2, hf2⟩ := bcell hb2; have hz : w.heap.size < w2.heap.size := Nat.lt_of_lt_of_le hz hb2.size; have HB' := Aside0.mk (HB.out.trans (hb2.mono HB.out.size)); clear HB hb2; have HB := HB'; clear HB')))
  go_ret
  exact ⟨ret_bool HF.out.symm, HB.out⟩
set_option maxRecDepth 100000 in
set_option maxHeartbeats 4000000 in
theorem recur_match_f4fE (a0 a1 a2 a3 : Int) (A4 A5 A6 : Option Addr) (c4 c5 c6 : Nat) (l4 l5 : List Int) (l6 : List S59) (first day y d y0 d0 : Int) (m m0 : Nat) (w : World)
    (hr4 : Kd.C (Kd.int .i64) w A4 l4.length l4) (hc4 : l4.length ≤ c4) (hr5 : Kd.C (Kd.int .i64) w A5 l5.length l5) (hc5 : l5.length ≤ c5) (hr6 : Kd.C k59 w A6 l6.length l6) (hc6 : l6.length ≤ c6)
    (hl4 : l4.length ≤ 1000000000) (hl5 : l5.length ≤ 1000000000) (hl6 : l6.length ≤ 1000000000)
    (hi0 : 1 ≤ a1) (hi1 : a1 ≤ 1000) (hf0 : 0 ≤ first) (hf1 : first ≤ 2932896) (hd0 : 0 ≤ day) (hd1 : day ≤ 2932896) (hcf : Cal.IsCivil first y0 m0 d0) (hcd : Cal.IsCivil day y m d) (hge : first ≤ day) (e4 : l4 = []) (ef : a0 = 4) (hr : ((y - y0) % a1 == 0) = true) (he : ((m : Int) == (m0 : Int)) = false) :
    Calls Tryz.prog 27 #[.agg #[.int .i64 a0, .int .i64 a1, .int .i64 a2, .int .i64 a3, .slice A4 l4.length c4, .slice A5 l5.length c5, .slice A6 l6.length c6], .int .i64 first, .int .i64 day] w fun e w' =>
      e = .returned (.bool (matchS a0 a1 l4 l5 l6 first day y m d y0 m0 d0)) ∧ Below w.heap.size w w' := by
  have hfin : matchS a0 a1 l4 l5 l6 first day y m d y0 m0 d0 = false := by
    unfold matchS
    rw [if_neg (by omega), if_neg (fun h => h.1 e4), if_neg (by omega), if_neg (by omega), if_neg (by omega), hr, Bool.true_and, he, e4]; simp
  have HF := Lib.hid hfin
  clear hfin
  have z4 : decide (0 < l4.length) = false := by rw [e4]; rfl
  obtain ⟨hy, hm12⟩ := hcf.mono hcd hge
  clear hm12
  have g1 : (a0 == 1) = false := by rw [ef]; rfl
  have g2 : (a0 == 2) = false := by rw [ef]; rfl
  have g3 : (a0 == 3) = false := by rw [ef]; rfl
  clear ef
  have HR4 := Aside0.mk hr4
  have HR5 := Aside0.mk hr5
  have HR6 := Aside0.mk hr6
  have HCF := Aside0.mk hcf
  have HCD := Aside0.mk hcd
  clear hr4 hr5 hr6
  obtain ⟨u1, u2, u3, u4, u5, u6, -⟩ := hcf
  obtain ⟨v1, v2, v3, v4, v5, v6, -⟩ := hcd
  have mlF := mlen_le31 y0 m0
  have mlD := mlen_le31 y m
  have HB := Aside0.mk ((Below.refl w.heap.size w).alloc (Nat.le_refl _) (.cells #[.int .i64 a0, .int .i64 a1, .int .i64 a2, .int .i64 a3, .slice A4 l4.length c4, .slice A5 l5.length c5, .slice A6 l6.length c6] 25))
  have hz : w.heap.size < (w.alloc (.cells #[.int .i64 a0, .int .i64 a1, .int .i64 a2, .int .i64 a3, .slice A4 l4.length c4, .slice A5 l5.length c5, .slice A6 l6.length c6] 25)).heap.size := by simp
  clear e4
  go_enter Tryz.func27, Tryz.ntmps27
  go_wp2_with (first
      | (go_at_call 55; ((with_reducible refine (when_Civil_at hf0 hf1 HCF.out _).mono ?_); rintro e w2 ⟨rfl, hb2⟩; obtain ⟨hc2, hf2⟩ := bcell hb2; have hz : w.heap.size < w2.heap.size := Nat.lt_of_lt_of_le hz hb2.size; have HB' := Aside0.mk (HB.out.trans (hb2.mono HB.out.size)); clear HB hb2; have HB := HB'; clear HB'))
      | (go_at_call 55; ((with_reducible refine (when_Civil_at hd0 hd1 HCD.out _).mono ?_); rintro e w2 ⟨rfl, hb2⟩; obtain ⟨hc2, hf2⟩ := bcell hb2; have hz : w.heap.size < w2.heap.size := Nat.lt_of_lt_of_le hz hb2.size; have HB' := Aside0.mk (HB.out.trans (hb2.mono HB.out.size)); clear HB hb2; have HB := HB'; clear HB'))
      | (go_at_call 56; ((with_reducible refine (date_Weekday first hf0 hf1 _).mono ?_); rintro e w2 ⟨rfl, hb2⟩; obtain ⟨hc2, hf2⟩ := bcell hb2; have hz : w.heap.size < w2.heap.size := Nat.lt_of_lt_of_le hz hb2.size; have HB' := Aside0.mk (HB.out.trans (hb2.mono HB.out.size)); clear HB hb2; have HB := HB'; clear HB'))
      | (go_at_call 56; ((with_reducible refine (date_Weekday day hd0 hd1 _).mono ?_); rintro e w2 ⟨rfl, hb2⟩; obtain ⟨hc2, hf2⟩ := bcell hb2; have hz : w.heap.size < w2.heap.size := Nat.lt_of_lt_of_le hz hb2.size; have HB' := Aside0.mk (HB.out.trans (hb2.mono HB.out.size)); clear HB hb2; have HB := HB'; clear HB'))
      | (go_at_call 57; ((with_reducible refine (contains_int A4 c4 l4 _ _ (Kd.C_below HR4.out HB.out) hc4 hl4).mono ?_); rintro e w2 ⟨rfl, hb2⟩; obtain ⟨hc2, hf2⟩ := bcell hb2; have hz : w.heap.size < w2.heap.size := Nat.lt_of_lt_of_le hz hb2.size; have HB' := Aside0.mk (HB.out.trans (hb2.mono HB.out.size)); clear HB hb2; have HB := HB'; clear HB'))
      | (go_at_call 58; ((with_reducible refine (rule_on a0 a1 a2 a3 A4 A5 A6 c4 c5 c6 l4 l5 l6 _ _ (Kd.C_below HR4.out HB.out) hc4 (Kd.C_below HR5.out HB.out) hc5 (Kd.C_below HR6.out HB.out) hc6 hl6).mono ?_); rintro e w2 ⟨rfl, hb2⟩; obtain ⟨hc2, hf2⟩ := bcell hb2; have hz : w.heap.size < w2.heap.size := Nat.lt_of_lt_of_le hz hb2.size; have HB' := Aside0.mk (HB.out.trans (hb2.mono HB.out.size)); clear HB hb2; have HB := HB'; clear HB'))
      | (go_at_call 59; ((with_reducible refine (recur_may a0 a1 a2 a3 A4 A5 A6 c4 c5 c6 l4 l5 l6 y d _ d0 m _ (Kd.C_below HR5.out HB.out) hc5 (Kd.C_below HR6.out HB.out) hc6 hl5 hl6 v1 v2 (by omega) (by omega) v5 v6).mono ?_); rintro e w2 ⟨rfl, hb2⟩; obtain ⟨hc2, hf2⟩ := bcell hb2; have hz : w.heap.size < w2.heap.size := Nat.lt_of_lt_of_le hz hb2.size; have HB' := Aside0.mk (HB.out.trans (hb2.mono HB.out.size)); clear HB hb2; have HB := HB'; clear HB')))
  go_ret
  exact ⟨ret_bool HF.out.symm, HB.out⟩
set_option maxRecDepth 100000 in
set_option maxHeartbeats 4000000 in
theorem recur_match_f1aN (a0 a1 a2 a3 : Int) (A4 A5 A6 : Option Addr) (c4 c5 c6 : Nat) (l4 l5 : List Int) (l6 : List S59) (first day y d y0 d0 : Int) (m m0 : Nat) (w : World)
    (hr4 : Kd.C (Kd.int .i64) w A4 l4.length l4) (hc4 : l4.length ≤ c4) (hr5 : Kd.C (Kd.int .i64) w A5 l5.length l5) (hc5 : l5.length ≤ c5) (hr6 : Kd.C k59 w A6 l6.length l6) (hc6 : l6.length ≤ c6)
    (hl4 : l4.length ≤ 1000000000) (hl5 : l5.length ≤ 1000000000) (hl6 : l6.length ≤ 1000000000)
    (hi0 : 1 ≤ a1) (hi1 : a1 ≤ 1000) (hf0 : 0 ≤ first) (hf1 : first ≤ 2932896) (hd0 : 0 ≤ day) (hd1 : day ≤ 2932896) (hcf : Cal.IsCivil first y0 m0 d0) (hcd : Cal.IsCivil day y m d) (hge : first ≤ day) (e4 : l4 ≠ []) (k4 : hasI l4 m = true) (ef : a0 = 1) (hr : ((day - first) % a1 == 0) = true) :
    Calls Tryz.prog 27 #[.agg #[.int .i64 a0, .int .i64 a1, .int .i64 a2, .int .i64 a3, .slice A4 l4.length c4, .slice A5 l5.length c5, .slice A6 l6.length c6], .int .i64 first, .int .i64 day] w fun e w' =>
      e = .returned (.bool (matchS a0 a1 l4 l5 l6 first day y m d y0 m0 d0)) ∧ Below w.heap.size w w' := by
  have hfin : matchS a0 a1 l4 l5 l6 first day y m d y0 m0 d0 = onS l6 ((day + 3) % 7) := by
    unfold matchS
    rw [if_neg (by omega), if_neg (fun h => by rw [k4] at h; exact absurd h.2 (by decide)), if_pos ef, hr, Bool.true_and]
  have HF := Lib.hid hfin
  clear hfin
  have p4 : 0 < l4.length := List.length_pos_iff.mpr e4
  have z4 : decide (0 < l4.length) = true := decide_eq_true p4
  have g1 : (a0 == 1) = true := by rw [ef]; rfl
  clear ef
  have HR4 := Aside0.mk hr4
  have HR5 := Aside0.mk hr5
  have HR6 := Aside0.mk hr6
  have HCF := Aside0.mk hcf
  have HCD := Aside0.mk hcd
  clear hr4 hr5 hr6
  obtain ⟨u1, u2, u3, u4, u5, u6, -⟩ := hcf
  obtain ⟨v1, v2, v3, v4, v5, v6, -⟩ := hcd
  have mlF := mlen_le31 y0 m0
  have mlD := mlen_le31 y m
  have HB := Aside0.mk ((Below.refl w.heap.size w).alloc (Nat.le_refl _) (.cells #[.int .i64 a0, .int .i64 a1, .int .i64 a2, .int .i64 a3, .slice A4 l4.length c4, .slice A5 l5.length c5, .slice A6 l6.length c6] 25))
  have hz : w.heap.size < (w.alloc (.cells #[.int .i64 a0, .int .i64 a1, .int .i64 a2, .int .i64 a3, .slice A4 l4.length c4, .slice A5 l5.length c5, .slice A6 l6.length c6] 25)).heap.size := by simp
  clear e4
  go_enter Tryz.func27, Tryz.ntmps27
  go_wp2_with (first
      | (go_at_call 55; ((with_reducible refine (when_Civil_at hf0 hf1 HCF.out _).mono ?_); rintro e w2 ⟨rfl, hb2⟩; obtain ⟨hc2, hf2⟩ := bcell hb2; have hz : w.heap.size < w2.heap.size := Nat.lt_of_lt_of_le hz hb2.size; have HB' := Aside0.mk (HB.out.trans (hb2.mono HB.out.size)); clear HB hb2; have HB := HB'; clear HB'))
      | (go_at_call 55; ((with_reducible refine (when_Civil_at hd0 hd1 HCD.out _).mono ?_); rintro e w2 ⟨rfl, hb2⟩; obtain ⟨hc2, hf2⟩ := bcell hb2; have hz : w.heap.size < w2.heap.size := Nat.lt_of_lt_of_le hz hb2.size; have HB' := Aside0.mk (HB.out.trans (hb2.mono HB.out.size)); clear HB hb2; have HB := HB'; clear HB'))
      | (go_at_call 56; ((with_reducible refine (date_Weekday first hf0 hf1 _).mono ?_); rintro e w2 ⟨rfl, hb2⟩; obtain ⟨hc2, hf2⟩ := bcell hb2; have hz : w.heap.size < w2.heap.size := Nat.lt_of_lt_of_le hz hb2.size; have HB' := Aside0.mk (HB.out.trans (hb2.mono HB.out.size)); clear HB hb2; have HB := HB'; clear HB'))
      | (go_at_call 56; ((with_reducible refine (date_Weekday day hd0 hd1 _).mono ?_); rintro e w2 ⟨rfl, hb2⟩; obtain ⟨hc2, hf2⟩ := bcell hb2; have hz : w.heap.size < w2.heap.size := Nat.lt_of_lt_of_le hz hb2.size; have HB' := Aside0.mk (HB.out.trans (hb2.mono HB.out.size)); clear HB hb2; have HB := HB'; clear HB'))
      | (go_at_call 57; ((with_reducible refine (contains_int A4 c4 l4 _ _ (Kd.C_below HR4.out HB.out) hc4 hl4).mono ?_); rintro e w2 ⟨rfl, hb2⟩; obtain ⟨hc2, hf2⟩ := bcell hb2; have hz : w.heap.size < w2.heap.size := Nat.lt_of_lt_of_le hz hb2.size; have HB' := Aside0.mk (HB.out.trans (hb2.mono HB.out.size)); clear HB hb2; have HB := HB'; clear HB'))
      | (go_at_call 58; ((with_reducible refine (rule_on a0 a1 a2 a3 A4 A5 A6 c4 c5 c6 l4 l5 l6 _ _ (Kd.C_below HR4.out HB.out) hc4 (Kd.C_below HR5.out HB.out) hc5 (Kd.C_below HR6.out HB.out) hc6 hl6).mono ?_); rintro e w2 ⟨rfl, hb2⟩; obtain ⟨hc2, hf2⟩ := bcell hb2; have hz : w.heap.size < w2.heap.size := Nat.lt_of_lt_of_le hz hb2.size; have HB' := Aside0.mk (HB.out.trans (hb2.mono HB.out.size)); clear HB hb2; have HB := HB'; clear HB'))
      | (go_at_call 59; ((with_reducible refine (recur_may a0 a1 a2 a3 A4 A5 A6 c4 c5 c6 l4 l5 l6 y d _ d0 m _ (Kd.C_below HR5.out HB.out) hc5 (Kd.C_below HR6.out HB.out) hc6 hl5 hl6 v1 v2 (by omega) (by omega) v5 v6).mono ?_); rintro e w2 ⟨rfl, hb2⟩; obtain ⟨hc2, hf2⟩ := bcell hb2; have hz : w.heap.size < w2.heap.size := Nat.lt_of_lt_of_le hz hb2.size; have HB' := Aside0.mk (HB.out.trans (hb2.mono HB.out.size)); clear HB hb2; have HB := HB'; clear HB')))
  go_ret
  exact ⟨ret_bool HF.out.symm, HB.out⟩
set_option maxRecDepth 100000 in
set_option maxHeartbeats 4000000 in
theorem recur_match_f1bN (a0 a1 a2 a3 : Int) (A4 A5 A6 : Option Addr) (c4 c5 c6 : Nat) (l4 l5 : List Int) (l6 : List S59) (first day y d y0 d0 : Int) (m m0 : Nat) (w : World)
    (hr4 : Kd.C (Kd.int .i64) w A4 l4.length l4) (hc4 : l4.length ≤ c4) (hr5 : Kd.C (Kd.int .i64) w A5 l5.length l5) (hc5 : l5.length ≤ c5) (hr6 : Kd.C k59 w A6 l6.length l6) (hc6 : l6.length ≤ c6)
    (hl4 : l4.length ≤ 1000000000) (hl5 : l5.length ≤ 1000000000) (hl6 : l6.length ≤ 1000000000)
    (hi0 : 1 ≤ a1) (hi1 : a1 ≤ 1000) (hf0 : 0 ≤ first) (hf1 : first ≤ 2932896) (hd0 : 0 ≤ day) (hd1 : day ≤ 2932896) (hcf : Cal.IsCivil first y0 m0 d0) (hcd : Cal.IsCivil day y m d) (hge : first ≤ day) (e4 : l4 ≠ []) (k4 : hasI l4 m = true) (ef : a0 = 1) (hr : ((day - first) % a1 == 0) = false) :
    Calls Tryz.prog 27 #[.agg #[.int .i64 a0, .int .i64 a1, .int .i64 a2, .int .i64 a3, .slice A4 l4.length c4, .slice A5 l5.length c5, .slice A6 l6.length c6], .int .i64 first, .int .i64 day] w fun e w' =>
      e = .returned (.bool (matchS a0 a1 l4 l5 l6 first day y m d y0 m0 d0)) ∧ Below w.heap.size w w' := by
  have hfin : matchS a0 a1 l4 l5 l6 first day y m d y0 m0 d0 = false := by
    unfold matchS
    rw [if_neg (by omega), if_neg (fun h => by rw [k4] at h; exact absurd h.2 (by decide)), if_pos ef, hr, Bool.false_and]
  have HF := Lib.hid hfin
  clear hfin
  have p4 : 0 < l4.length := List.length_pos_iff.mpr e4
  have z4 : decide (0 < l4.length) = true := decide_eq_true p4
  have g1 : (a0 == 1) = true := by rw [ef]; rfl
  clear ef
  have HR4 := Aside0.mk hr4
  have HR5 := Aside0.mk hr5
  have HR6 := Aside0.mk hr6
  have HCF := Aside0.mk hcf
  have HCD := Aside0.mk hcd
  clear hr4 hr5 hr6
  obtain ⟨u1, u2, u3, u4, u5, u6, -⟩ := hcf
  obtain ⟨v1, v2, v3, v4, v5, v6, -⟩ := hcd
  have mlF := mlen_le31 y0 m0
  have mlD := mlen_le31 y m
  have HB := Aside0.mk ((Below.refl w.heap.size w).alloc (Nat.le_refl _) (.cells #[.int .i64 a0, .int .i64 a1, .int .i64 a2, .int .i64 a3, .slice A4 l4.length c4, .slice A5 l5.length c5, .slice A6 l6.length c6] 25))
  have hz : w.heap.size < (w.alloc (.cells #[.int .i64 a0, .int .i64 a1, .int .i64 a2, .int .i64 a3, .slice A4 l4.length c4, .slice A5 l5.length c5, .slice A6 l6.length c6] 25)).heap.size := by simp
  clear e4
  go_enter Tryz.func27, Tryz.ntmps27
  go_wp2_with (first
      | (go_at_call 55; ((with_reducible refine (when_Civil_at hf0 hf1 HCF.out _).mono ?_); rintro e w2 ⟨rfl, hb2⟩; obtain ⟨hc2, hf2⟩ := bcell hb2; have hz : w.heap.size < w2.heap.size := Nat.lt_of_lt_of_le hz hb2.size; have HB' := Aside0.mk (HB.out.trans (hb2.mono HB.out.size)); clear HB hb2; have HB := HB'; clear HB'))
      | (go_at_call 55; ((with_reducible refine (when_Civil_at hd0 hd1 HCD.out _).mono ?_); rintro e w2 ⟨rfl, hb2⟩; obtain ⟨hc2, hf2⟩ := bcell hb2; have hz : w.heap.size < w2.heap.size := Nat.lt_of_lt_of_le hz hb2.size; have HB' := Aside0.mk (HB.out.trans (hb2.mono HB.out.size)); clear HB hb2; have HB := HB'; clear HB'))
      | (go_at_call 56; ((with_reducible refine (date_Weekday first hf0 hf1 _).mono ?_); rintro e w2 ⟨rfl, hb2⟩; obtain ⟨hc2, hf2⟩ := bcell hb2; have hz : w.heap.size < w2.heap.size := Nat.lt_of_lt_of_le hz hb2.size; have HB' := Aside0.mk (HB.out.trans (hb2.mono HB.out.size)); clear HB hb2; have HB := HB'; clear HB'))
      | (go_at_call 56; ((with_reducible refine (date_Weekday day hd0 hd1 _).mono ?_); rintro e w2 ⟨rfl, hb2⟩; obtain ⟨hc2, hf2⟩ := bcell hb2; have hz : w.heap.size < w2.heap.size := Nat.lt_of_lt_of_le hz hb2.size; have HB' := Aside0.mk (HB.out.trans (hb2.mono HB.out.size)); clear HB hb2; have HB := HB'; clear HB'))
      | (go_at_call 57; ((with_reducible refine (contains_int A4 c4 l4 _ _ (Kd.C_below HR4.out HB.out) hc4 hl4).mono ?_); rintro e w2 ⟨rfl, hb2⟩; obtain ⟨hc2, hf2⟩ := bcell hb2; have hz : w.heap.size < w2.heap.size := Nat.lt_of_lt_of_le hz hb2.size; have HB' := Aside0.mk (HB.out.trans (hb2.mono HB.out.size)); clear HB hb2; have HB := HB'; clear HB'))
      | (go_at_call 58; ((with_reducible refine (rule_on a0 a1 a2 a3 A4 A5 A6 c4 c5 c6 l4 l5 l6 _ _ (Kd.C_below HR4.out HB.out) hc4 (Kd.C_below HR5.out HB.out) hc5 (Kd.C_below HR6.out HB.out) hc6 hl6).mono ?_); rintro e w2 ⟨rfl, hb2⟩; obtain ⟨hc2, hf2⟩ := bcell hb2; have hz : w.heap.size < w2.heap.size := Nat.lt_of_lt_of_le hz hb2.size; have HB' := Aside0.mk (HB.out.trans (hb2.mono HB.out.size)); clear HB hb2; have HB := HB'; clear HB'))
      | (go_at_call 59; ((with_reducible refine (recur_may a0 a1 a2 a3 A4 A5 A6 c4 c5 c6 l4 l5 l6 y d _ d0 m _ (Kd.C_below HR5.out HB.out) hc5 (Kd.C_below HR6.out HB.out) hc6 hl5 hl6 v1 v2 (by omega) (by omega) v5 v6).mono ?_); rintro e w2 ⟨rfl, hb2⟩; obtain ⟨hc2, hf2⟩ := bcell hb2; have hz : w.heap.size < w2.heap.size := Nat.lt_of_lt_of_le hz hb2.size; have HB' := Aside0.mk (HB.out.trans (hb2.mono HB.out.size)); clear HB hb2; have HB := HB'; clear HB')))
  go_ret
  exact ⟨ret_bool HF.out.symm, HB.out⟩
set_option maxRecDepth 100000 in
set_option maxHeartbeats 4000000 in
theorem recur_match_f2bN (a0 a1 a2 a3 : Int) (A4 A5 A6 : Option Addr) (c4 c5 c6 : Nat) (l4 l5 : List Int) (l6 : List S59) (first day y d y0 d0 : Int) (m m0 : Nat) (w : World)
    (hr4 : Kd.C (Kd.int .i64) w A4 l4.length l4) (hc4 : l4.length ≤ c4) (hr5 : Kd.C (Kd.int .i64) w A5 l5.length l5) (hc5 : l5.length ≤ c5) (hr6 : Kd.C k59 w A6 l6.length l6) (hc6 : l6.length ≤ c6)
    (hl4 : l4.length ≤ 1000000000) (hl5 : l5.length ≤ 1000000000) (hl6 : l6.length ≤ 1000000000)
    (hi0 : 1 ≤ a1) (hi1 : a1 ≤ 1000) (hf0 : 0 ≤ first) (hf1 : first ≤ 2932896) (hd0 : 0 ≤ day) (hd1 : day ≤ 2932896) (hcf : Cal.IsCivil first y0 m0 d0) (hcd : Cal.IsCivil day y m d) (hge : first ≤ day) (e4 : l4 ≠ []) (k4 : hasI l4 m = true) (ef : a0 = 2) (hr : ((day - (day + 3) % 7 - first + (first + 3) % 7) / 7 % a1 == 0) = false) :
    Calls Tryz.prog 27 #[.agg #[.int .i64 a0, .int .i64 a1, .int .i64 a2, .int .i64 a3, .slice A4 l4.length c4, .slice A5 l5.length c5, .slice A6 l6.length c6], .int .i64 first, .int .i64 day] w fun e w' =>
      e = .returned (.bool (matchS a0 a1 l4 l5 l6 first day y m d y0 m0 d0)) ∧ Below w.heap.size w w' := by
  have hfin : matchS a0 a1 l4 l5 l6 first day y m d y0 m0 d0 = false := by
    unfold matchS
    rw [if_neg (by omega), if_neg (fun h => by rw [k4] at h; exact absurd h.2 (by decide)), if_neg (by omega), if_pos ef, hr, Bool.false_and]
  have HF := Lib.hid hfin
  clear hfin
  have p4 : 0 < l4.length := List.length_pos_iff.mpr e4
  have z4 : decide (0 < l4.length) = true := decide_eq_true p4
  have hwk : 0 ≤ day - (day + 3) % 7 - first + (first + 3) % 7 := by omega
  have g1 : (a0 == 1) = false := by rw [ef]; rfl
  have g2 : (a0 == 2) = true := by rw [ef]; rfl
  clear ef
  have HR4 := Aside0.mk hr4
  have HR5 := Aside0.mk hr5
  have HR6 := Aside0.mk hr6
  have HCF := Aside0.mk hcf
  have HCD := Aside0.mk hcd
  clear hr4 hr5 hr6
  obtain ⟨u1, u2, u3, u4, u5, u6, -⟩ := hcf
  obtain ⟨v1, v2, v3, v4, v5, v6, -⟩ := hcd
  have mlF := mlen_le31 y0 m0
  have mlD := mlen_le31 y m
  have HB := Aside0.mk ((Below.refl w.heap.size w).alloc (Nat.le_refl _) (.cells #[.int .i64 a0, .int .i64 a1, .int .i64 a2, .int .i64 a3, .slice A4 l4.length c4, .slice A5 l5.length c5, .slice A6 l6.length c6] 25))
  have hz : w.heap.size < (w.alloc (.cells #[.int .i64 a0, .int .i64 a1, .int .i64 a2, .int .i64 a3, .slice A4 l4.length c4, .slice A5 l5.length c5, .slice A6 l6.length c6] 25)).heap.size := by simp
  clear e4
  go_enter Tryz.func27, Tryz.ntmps27
  go_wp2_with (first
      | (go_at_call 55; ((with_reducible refine (when_Civil_at hf0 hf1 HCF.out _).mono ?_); rintro e w2 ⟨rfl, hb2⟩; obtain ⟨hc2, hf2⟩ := bcell hb2; have hz : w.heap.size < w2.heap.size := Nat.lt_of_lt_of_le hz hb2.size; have HB' := Aside0.mk (HB.out.trans (hb2.mono HB.out.size)); clear HB hb2; have HB := HB'; clear HB'))
      | (go_at_call 55; ((with_reducible refine (when_Civil_at hd0 hd1 HCD.out _).mono ?_); rintro e w2 ⟨rfl, hb2⟩; obtain ⟨hc2, hf2⟩ := bcell hb2; have hz : w.heap.size < w2.heap.size := Nat.lt_of_lt_of_le hz hb2.size; have HB' := Aside0.mk (HB.out.trans (hb2.mono HB.out.size)); clear HB hb2; have HB := HB'; clear HB'))
      | (go_at_call 56; ((with_reducible refine (date_Weekday first hf0 hf1 _).mono ?_); rintro e w2 ⟨rfl, hb2⟩; obtain ⟨hc2, hf2⟩ := bcell hb2; have hz : w.heap.size < w2.heap.size := Nat.lt_of_lt_of_le hz hb2.size; have HB' := Aside0.mk (HB.out.trans (hb2.mono HB.out.size)); clear HB hb2; have HB := HB'; clear HB'))
      | (go_at_call 56; ((with_reducible refine (date_Weekday day hd0 hd1 _).mono ?_); rintro e w2 ⟨rfl, hb2⟩; obtain ⟨hc2, hf2⟩ := bcell hb2; have hz : w.heap.size < w2.heap.size := Nat.lt_of_lt_of_le hz hb2.size; have HB' := Aside0.mk (HB.out.trans (hb2.mono HB.out.size)); clear HB hb2; have HB := HB'; clear HB'))
      | (go_at_call 57; ((with_reducible refine (contains_int A4 c4 l4 _ _ (Kd.C_below HR4.out HB.out) hc4 hl4).mono ?_); rintro e w2 ⟨rfl, hb2⟩; obtain ⟨hc2, hf2⟩ := bcell hb2; have hz : w.heap.size < w2.heap.size := Nat.lt_of_lt_of_le hz hb2.size; have HB' := Aside0.mk (HB.out.trans (hb2.mono HB.out.size)); clear HB hb2; have HB := HB'; clear HB'))
      | (go_at_call 58; ((with_reducible refine (rule_on a0 a1 a2 a3 A4 A5 A6 c4 c5 c6 l4 l5 l6 _ _ (Kd.C_below HR4.out HB.out) hc4 (Kd.C_below HR5.out HB.out) hc5 (Kd.C_below HR6.out HB.out) hc6 hl6).mono ?_); rintro e w2 ⟨rfl, hb2⟩; obtain ⟨hc2, hf2⟩ := bcell hb2; have hz : w.heap.size < w2.heap.size := Nat.lt_of_lt_of_le hz hb2.size; have HB' := Aside0.mk (HB.out.trans (hb2.mono HB.out.size)); clear HB hb2; have HB := HB'; clear HB'))
      | (go_at_call 59; ((with_reducible refine (recur_may a0 a1 a2 a3 A4 A5 A6 c4 c5 c6 l4 l5 l6 y d _ d0 m _ (Kd.C_below HR5.out HB.out) hc5 (Kd.C_below HR6.out HB.out) hc6 hl5 hl6 v1 v2 (by omega) (by omega) v5 v6).mono ?_); rintro e w2 ⟨rfl, hb2⟩; obtain ⟨hc2, hf2⟩ := bcell hb2; have hz : w.heap.size < w2.heap.size := Nat.lt_of_lt_of_le hz hb2.size; have HB' := Aside0.mk (HB.out.trans (hb2.mono HB.out.size)); clear HB hb2; have HB := HB'; clear HB')))
  go_ret
  exact ⟨ret_bool HF.out.symm, HB.out⟩
set_option maxRecDepth 100000 in
set_option maxHeartbeats 4000000 in
theorem recur_match_f2eN (a0 a1 a2 a3 : Int) (A4 A5 A6 : Option Addr) (c4 c5 c6 : Nat) (l4 l5 : List Int) (l6 : List S59) (first day y d y0 d0 : Int) (m m0 : Nat) (w : World)
    (hr4 : Kd.C (Kd.int .i64) w A4 l4.length l4) (hc4 : l4.length ≤ c4) (hr5 : Kd.C (Kd.int .i64) w A5 l5.length l5) (hc5 : l5.length ≤ c5) (hr6 : Kd.C k59 w A6 l6.length l6) (hc6 : l6.length ≤ c6)
    (hl4 : l4.length ≤ 1000000000) (hl5 : l5.length ≤ 1000000000) (hl6 : l6.length ≤ 1000000000)
    (hi0 : 1 ≤ a1) (hi1 : a1 ≤ 1000) (hf0 : 0 ≤ first) (hf1 : first ≤ 2932896) (hd0 : 0 ≤ day) (hd1 : day ≤ 2932896) (hcf : Cal.IsCivil first y0 m0 d0) (hcd : Cal.IsCivil day y m d) (hge : first ≤ day) (e4 : l4 ≠ []) (k4 : hasI l4 m = true) (ef : a0 = 2) (hr : ((day - (day + 3) % 7 - first + (first + 3) % 7) / 7 % a1 == 0) = true) (e6 : l6 = []) :
    Calls Tryz.prog 27 #[.agg #[.int .i64 a0, .int .i64 a1, .int .i64 a2, .int .i64 a3, .slice A4 l4.length c4, .slice A5 l5.length c5, .slice A6 l6.length c6], .int .i64 first, .int .i64 day] w fun e w' =>
      e = .returned (.bool (matchS a0 a1 l4 l5 l6 first day y m d y0 m0 d0)) ∧ Below w.heap.size w w' := by
  have hfin : matchS a0 a1 l4 l5 l6 first day y m d y0 m0 d0 = ((day + 3) % 7 == (first + 3) % 7) := by
    unfold matchS
    rw [if_neg (by omega), if_neg (fun h => by rw [k4] at h; exact absurd h.2 (by decide)), if_neg (by omega), if_pos ef, hr, Bool.true_and, if_pos e6]
  have HF := Lib.hid hfin
  clear hfin
  have p4 : 0 < l4.length := List.length_pos_iff.mpr e4
  have z4 : decide (0 < l4.length) = true := decide_eq_true p4
  have hwk : 0 ≤ day - (day + 3) % 7 - first + (first + 3) % 7 := by omega
  have g1 : (a0 == 1) = false := by rw [ef]; rfl
  have g2 : (a0 == 2) = true := by rw [ef]; rfl
  clear ef
  have y6 : ((l6.length : Int) == 0) = true := by rw [e6]; rfl
  have x6 : decide (0 < l6.length) = false := by rw [e6]; rfl
  clear e6
  have HR4 := Aside0.mk hr4
  have HR5 := Aside0.mk hr5
  have HR6 := Aside0.mk hr6
  have HCF := Aside0.mk hcf
  have HCD := Aside0.mk hcd
  clear hr4 hr5 hr6
  obtain ⟨u1, u2, u3, u4, u5, u6, -⟩ := hcf
  obtain ⟨v1, v2, v3, v4, v5, v6, -⟩ := hcd
  have mlF := mlen_le31 y0 m0
  have mlD := mlen_le31 y m
  have HB := Aside0.mk ((Below.refl w.heap.size w).alloc (Nat.le_refl _) (.cells #[.int .i64 a0, .int .i64 a1, .int .i64 a2, .int .i64 a3, .slice A4 l4.length c4, .slice A5 l5.length c5, .slice A6 l6.length c6] 25))
  have hz : w.heap.size < (w.alloc (.cells #[.int .i64 a0, .int .i64 a1, .int .i64 a2, .int .i64 a3, .slice A4 l4.length c4, .slice A5 l5.length c5, .slice A6 l6.length c6] 25)).heap.size := by simp
  clear e4
  go_enter Tryz.func27, Tryz.ntmps27
  go_wp2_with (first
      | (go_at_call 55; ((with_reducible refine (when_Civil_at hf0 hf1 HCF.out _).mono ?_); rintro e w2 ⟨rfl, hb2⟩; obtain ⟨hc2, hf2⟩ := bcell hb2; have hz : w.heap.size < w2.heap.size := Nat.lt_of_lt_of_le hz hb2.size; have HB' := Aside0.mk (HB.out.trans (hb2.mono HB.out.size)); clear HB hb2; have HB := HB'; clear HB'))
      | (go_at_call 55; ((with_reducible refine (when_Civil_at hd0 hd1 HCD.out _).mono ?_); rintro e w2 ⟨rfl, hb2⟩; obtain ⟨hc2, hf2⟩ := bcell hb2; have hz : w.heap.size < w2.heap.size := Nat.lt_of_lt_of_le hz hb2.size; have HB' := Aside0.mk (HB.out.trans (hb2.mono HB.out.size)); clear HB hb2; have HB := HB'; clear HB'))
      | (go_at_call 56; ((with_reducible refine (date_Weekday first hf0 hf1 _).mono ?_); rintro e w2 ⟨rfl, hb2⟩; obtain ⟨hc2, hf2⟩ := bcell hb2; have hz : w.heap.size < w2.heap.size := Nat.lt_of_lt_of_le hz hb2.size; have HB' := Aside0.mk (HB.out.trans (hb2.mono HB.out.size)); clear HB hb2; have HB := HB'; clear HB'))
      | (go_at_call 56; ((with_reducible refine (date_Weekday day hd0 hd1 _).mono ?_); rintro e w2 ⟨rfl, hb2⟩; obtain ⟨hc2, hf2⟩ := bcell hb2; have hz : w.heap.size < w2.heap.size := Nat.lt_of_lt_of_le hz hb2.size; have HB' := Aside0.mk (HB.out.trans (hb2.mono HB.out.size)); clear HB hb2; have HB := HB'; clear HB'))
      | (go_at_call 57; ((with_reducible refine (contains_int A4 c4 l4 _ _ (Kd.C_below HR4.out HB.out) hc4 hl4).mono ?_); rintro e w2 ⟨rfl, hb2⟩; obtain ⟨hc2, hf2⟩ := bcell hb2; have hz : w.heap.size < w2.heap.size := Nat.lt_of_lt_of_le hz hb2.size; have HB' := Aside0.mk (HB.out.trans (hb2.mono HB.out.size)); clear HB hb2; have HB := HB'; clear HB'))
      | (go_at_call 58; ((with_reducible refine (rule_on a0 a1 a2 a3 A4 A5 A6 c4 c5 c6 l4 l5 l6 _ _ (Kd.C_below HR4.out HB.out) hc4 (Kd.C_below HR5.out HB.out) hc5 (Kd.C_below HR6.out HB.out) hc6 hl6).mono ?_); rintro e w2 ⟨rfl, hb2⟩; obtain ⟨hc2, hf2⟩ := bcell hb2; have hz : w.heap.size < w2.heap.size := Nat.lt_of_lt_of_le hz hb2.size; have HB' := Aside0.mk (HB.out.trans (hb2.mono HB.out.size)); clear HB hb2; have HB := HB'; clear HB'))
      | (go_at_call 59; ((with_reducible refine (recur_may a0 a1 a2 a3 A4 A5 A6 c4 c5 c6 l4 l5 l6 y d _ d0 m _ (Kd.C_below HR5.out HB.out) hc5 (Kd.C_below HR6.out HB.out) hc6 hl5 hl6 v1 v2 (by omega) (by omega) v5 v6).mono ?_); rintro e w2 ⟨rfl, hb2⟩; obtain ⟨hc2, hf2⟩ := bcell hb2; have hz : w.heap.size < w2.heap.size := Nat.lt_of_lt_of_le hz hb2.size; have HB' := Aside0.mk (HB.out.trans (hb2.mono HB.out.size)); clear HB hb2; have HB := HB'; clear HB')))
  go_ret
  exact ⟨ret_bool HF.out.symm, HB.out⟩
set_option maxRecDepth 100000 in
set_option maxHeartbeats 4000000 in
theorem recur_match_f2tN (a0 a1 a2 a3 : Int) (A4 A5 A6 : Option Addr) (c4 c5 c6 : Nat) (l4 l5 : List Int) (l6 : List S59) (first day y d y0 d0 : Int) (m m0 : Nat) (w : World)
    (hr4 : Kd.C (Kd.int .i64) w A4 l4.length l4) (hc4 : l4.length ≤ c4) (hr5 : Kd.C (Kd.int .i64) w A5 l5.length l5) (hc5 : l5.length ≤ c5) (hr6 : Kd.C k59 w A6 l6.length l6) (hc6 : l6.length ≤ c6)
    (hl4 : l4.length ≤ 1000000000) (hl5 : l5.length ≤ 1000000000) (hl6 : l6.length ≤ 1000000000)
    (hi0 : 1 ≤ a1) (hi1 : a1 ≤ 1000) (hf0 : 0 ≤ first) (hf1 : first ≤ 2932896) (hd0 : 0 ≤ day) (hd1 : day ≤ 2932896) (hcf : Cal.IsCivil first y0 m0 d0) (hcd : Cal.IsCivil day y m d) (hge : first ≤ day) (e4 : l4 ≠ []) (k4 : hasI l4 m = true) (ef : a0 = 2) (hr : ((day - (day + 3) % 7 - first + (first + 3) % 7) / 7 % a1 == 0) = true) (e6 : l6 ≠ []) (ho : onS l6 ((day + 3) % 7) = true) :
    Calls Tryz.prog 27 #[.agg #[.int .i64 a0, .int .i64 a1, .int .i64 a2, .int .i64 a3, .slice A4 l4.length c4, .slice A5 l5.length c5, .slice A6 l6.length c6], .int .i64 first, .int .i64 day] w fun e w' =>
      e = .returned (.bool (matchS a0 a1 l4 l5 l6 first day y m d y0 m0 d0)) ∧ Below w.heap.size w w' := by
  have hfin : matchS a0 a1 l4 l5 l6 first day y m d y0 m0 d0 = true := by
    unfold matchS
    rw [if_neg (by omega), if_neg (fun h => by rw [k4] at h; exact absurd h.2 (by decide)), if_neg (by omega), if_pos ef, hr, Bool.true_and, if_neg e6, ho]
  have HF := Lib.hid hfin
  clear hfin
  have p4 : 0 < l4.length := List.length_pos_iff.mpr e4
  have z4 : decide (0 < l4.length) = true := decide_eq_true p4
  have hwk : 0 ≤ day - (day + 3) % 7 - first + (first + 3) % 7 := by omega
  have g1 : (a0 == 1) = false := by rw [ef]; rfl
  have g2 : (a0 == 2) = true := by rw [ef]; rfl
  clear ef
  have p6 : 0 < l6.length := List.length_pos_iff.mpr e6
  have z6 : ((l6.length : Int) == 0) = false := by rw [beq_eq_false_iff_ne]; omega
  have HR4 := Aside0.mk hr4
  have HR5 := Aside0.mk hr5
  have HR6 := Aside0.mk hr6
  have HCF := Aside0.mk hcf
  have HCD := Aside0.mk hcd
  clear hr4 hr5 hr6
  obtain ⟨u1, u2, u3, u4, u5, u6, -⟩ := hcf
  obtain ⟨v1, v2, v3, v4, v5, v6, -⟩ := hcd
  have mlF := mlen_le31 y0 m0
  have mlD := mlen_le31 y m
  have HB := Aside0.mk ((Below.refl w.heap.size w).alloc (Nat.le_refl _) (.cells #[.int .i64 a0, .int .i64 a1, .int .i64 a2, .int .i64 a3, .slice A4 l4.length c4, .slice A5 l5.length c5, .slice A6 l6.length c6] 25))
  have hz : w.heap.size < (w.alloc (.cells #[.int .i64 a0, .int .i64 a1, .int .i64 a2, .int .i64 a3, .slice A4 l4.length c4, .slice A5 l5.length c5, .slice A6 l6.length c6] 25)).heap.size := by simp
  clear e4 e6
  go_enter Tryz.func27, Tryz.ntmps27
  go_wp2_with (first
      | (go_at_call 55; ((with_reducible refine (when_Civil_at hf0 hf1 HCF.out _).mono ?_); rintro e w2 ⟨rfl, hb2⟩; obtain ⟨hc2, hf2⟩ := bcell hb2; have hz : w.heap.size < w2.heap.size := Nat.lt_of_lt_of_le hz hb2.size; have HB' := Aside0.mk (HB.out.trans (hb2.mono HB.out.size)); clear HB hb2; have HB := HB'; clear HB'))
      | (go_at_call 55; ((with_reducible refine (when_Civil_at hd0 hd1 HCD.out _).mono ?_); rintro e w2 ⟨rfl, hb2⟩; obtain ⟨hc2, hf2⟩ := bcell hb2; have hz : w.heap.size < w2.heap.size := Nat.lt_of_lt_of_le hz hb2.size; have HB' := Aside0.mk (HB.out.trans (hb2.mono HB.out.size)); clear HB hb2; have HB := HB'; clear HB'))
      | (go_at_call 56; ((with_reducible refine (date_Weekday first hf0 hf1 _).mono ?_); rintro e w2 ⟨rfl, hb2⟩; obtain ⟨hc2, hf2⟩ := bcell hb2; have hz : w.heap.size < w2.heap.size := Nat.lt_of_lt_of_le hz hb2.size; have HB' := Aside0.mk (HB.out.trans (hb2.mono HB.out.size)); clear HB hb2; have HB := HB'; clear HB'))
      | (go_at_call 56; ((with_reducible refine (date_Weekday day hd0 hd1 _).mono ?_); rintro e w2 ⟨rfl, hb2⟩; obtain ⟨hc2, hf2⟩ := bcell hb2; have hz : w.heap.size < w2.heap.size := Nat.lt_of_lt_of_le hz hb2.size; have HB' := Aside0.mk (HB.out.trans (hb2.mono HB.out.size)); clear HB hb2; have HB := HB'; clear HB'))
      | (go_at_call 57; ((with_reducible refine (contains_int A4 c4 l4 _ _ (Kd.C_below HR4.out HB.out) hc4 hl4).mono ?_); rintro e w2 ⟨rfl, hb2⟩; obtain ⟨hc2, hf2⟩ := bcell hb2; have hz : w.heap.size < w2.heap.size := Nat.lt_of_lt_of_le hz hb2.size; have HB' := Aside0.mk (HB.out.trans (hb2.mono HB.out.size)); clear HB hb2; have HB := HB'; clear HB'))
      | (go_at_call 58; ((with_reducible refine (rule_on a0 a1 a2 a3 A4 A5 A6 c4 c5 c6 l4 l5 l6 _ _ (Kd.C_below HR4.out HB.out) hc4 (Kd.C_below HR5.out HB.out) hc5 (Kd.C_below HR6.out HB.out) hc6 hl6).mono ?_); rintro e w2 ⟨rfl, hb2⟩; obtain ⟨hc2, hf2⟩ := bcell hb2; have hz : w.heap.size < w2.heap.size := Nat.lt_of_lt_of_le hz hb2.size; have HB' := Aside0.mk (HB.out.trans (hb2.mono HB.out.size)); clear HB hb2; have HB := HB'; clear HB'))
      | (go_at_call 59; ((with_reducible refine (recur_may a0 a1 a2 a3 A4 A5 A6 c4 c5 c6 l4 l5 l6 y d _ d0 m _ (Kd.C_below HR5.out HB.out) hc5 (Kd.C_below HR6.out HB.out) hc6 hl5 hl6 v1 v2 (by omega) (by omega) v5 v6).mono ?_); rintro e w2 ⟨rfl, hb2⟩; obtain ⟨hc2, hf2⟩ := bcell hb2; have hz : w.heap.size < w2.heap.size := Nat.lt_of_lt_of_le hz hb2.size; have HB' := Aside0.mk (HB.out.trans (hb2.mono HB.out.size)); clear HB hb2; have HB := HB'; clear HB')))
  go_ret
  exact ⟨ret_bool HF.out.symm, HB.out⟩
set_option maxRecDepth 100000 in
set_option maxHeartbeats 4000000 in
theorem recur_match_f2fN (a0 a1 a2 a3 : Int) (A4 A5 A6 : Option Addr) (c4 c5 c6 : Nat) (l4 l5 : List Int) (l6 : List S59) (first day y d y0 d0 : Int) (m m0 : Nat) (w : World)
    (hr4 : Kd.C (Kd.int .i64) w A4 l4.length l4) (hc4 : l4.length ≤ c4) (hr5 : Kd.C (Kd.int .i64) w A5 l5.length l5) (hc5 : l5.length ≤ c5) (hr6 : Kd.C k59 w A6 l6.length l6) (hc6 : l6.length ≤ c6)
    (hl4 : l4.length ≤ 1000000000) (hl5 : l5.length ≤ 1000000000) (hl6 : l6.length ≤ 1000000000)
    (hi0 : 1 ≤ a1) (hi1 : a1 ≤ 1000) (hf0 : 0 ≤ first) (hf1 : first ≤ 2932896) (hd0 : 0 ≤ day) (hd1 : day ≤ 2932896) (hcf : Cal.IsCivil first y0 m0 d0) (hcd : Cal.IsCivil day y m d) (hge : first ≤ day) (e4 : l4 ≠ []) (k4 : hasI l4 m = true) (ef : a0 = 2) (hr : ((day - (day + 3) % 7 - first + (first + 3) % 7) / 7 % a1 == 0) = true) (e6 : l6 ≠ []) (ho : onS l6 ((day + 3) % 7) = false) :
    Calls Tryz.prog 27 #[.agg #[.int .i64 a0, .int .i64 a1, .int .i64 a2, .int .i64 a3, .slice A4 l4.length c4, .slice A5 l5.length c5, .slice A6 l6.length c6], .int .i64 first, .int .i64 day] w fun e w' =>
      e = .returned (.bool (matchS a0 a1 l4 l5 l6 first day y m d y0 m0 d0)) ∧ Below w.heap.size w w' := by
  have hfin : matchS a0 a1 l4 l5 l6 first day y m d y0 m0 d0 = false := by
    unfold matchS
    rw [if_neg (by omega), if_neg (fun h => by rw [k4] at h; exact absurd h.2 (by decide)), if_neg (by omega), if_pos ef, hr, Bool.true_and, if_neg e6, ho]
  have HF := Lib.hid hfin
  clear hfin
  have p4 : 0 < l4.length := List.length_pos_iff.mpr e4
  have z4 : decide (0 < l4.length) = true := decide_eq_true p4
  have hwk : 0 ≤ day - (day + 3) % 7 - first + (first + 3) % 7 := by omega
  have g1 : (a0 == 1) = false := by rw [ef]; rfl
  have g2 : (a0 == 2) = true := by rw [ef]; rfl
  clear ef
  have p6 : 0 < l6.length := List.length_pos_iff.mpr e6
  have z6 : ((l6.length : Int) == 0) = false := by rw [beq_eq_false_iff_ne]; omega
  have HR4 := Aside0.mk hr4
  have HR5 := Aside0.mk hr5
  have HR6 := Aside0.mk hr6
  have HCF := Aside0.mk hcf
  have HCD := Aside0.mk hcd
  clear hr4 hr5 hr6
  obtain ⟨u1, u2, u3, u4, u5, u6, -⟩ := hcf
  obtain ⟨v1, v2, v3, v4, v5, v6, -⟩ := hcd
  have mlF := mlen_le31 y0 m0
  have mlD := mlen_le31 y m
  have HB := Aside0.mk ((Below.refl w.heap.size w).alloc (Nat.le_refl _) (.cells #[.int .i64 a0, .int .i64 a1, .int .i64 a2, .int .i64 a3, .slice A4 l4.length c4, .slice A5 l5.length c5, .slice A6 l6.length c6] 25))
  have hz : w.heap.size < (w.alloc (.cells #[.int .i64 a0, .int .i64 a1, .int .i64 a2, .int .i64 a3, .slice A4 l4.length c4, .slice A5 l5.length c5, .slice A6 l6.length c6] 25)).heap.size := by simp
  clear e4 e6
  go_enter Tryz.func27, Tryz.ntmps27
  go_wp2_with (first
      | (go_at_call 55; ((with_reducible refine (when_Civil_at hf0 hf1 HCF.out _).mono ?_); rintro e w2 ⟨rfl, hb2⟩; obtain ⟨hc2, hf2⟩ := bcell hb2; have hz : w.heap.size < w2.heap.size := Nat.lt_of_lt_of_le hz hb2.size; have HB' := Aside0.mk (HB.out.trans (hb2.mono HB.out.size)); clear HB hb2; have HB := HB'; clear HB'))
      | (go_at_call 55; ((with_reducible refine (when_Civil_at hd0 hd1 HCD.out _).mono ?_); rintro e w2 ⟨rfl, hb2⟩; obtain ⟨hc2, hf2⟩ := bcell hb2; have hz : w.heap.size < w2.heap.size := Nat.lt_of_lt_of_le hz hb2.size; have HB' := Aside0.mk (HB.out.trans (hb2.mono HB.out.size)); clear HB hb2; have HB := HB'; clear HB'))
      | (go_at_call 56; ((with_reducible refine (date_Weekday first hf0 hf1 _).mono ?_); rintro e w2 ⟨rfl, hb2⟩; obtain ⟨hc2, hf2⟩ := bcell hb2; have hz : w.heap.size < w2.heap.size := Nat.lt_of_lt_of_le hz hb2.size; have HB' := Aside0.mk (HB.out.trans (hb2.mono HB.out.size)); clear HB hb2; have HB := HB'; clear HB'))
      | (go_at_call 56; ((with_reducible refine (date_Weekday day hd0 hd1 _).mono ?_); rintro e w2 ⟨rfl, hb2⟩; obtain ⟨hc2, hf2⟩ := bcell hb2; have hz : w.heap.size < w2.heap.size := Nat.lt_of_lt_of_le hz hb2.size; have HB' := Aside0.mk (HB.out.trans (hb2.mono HB.out.size)); clear HB hb2; have HB := HB'; clear HB'))
      | (go_at_call 57; ((with_reducible refine (contains_int A4 c4 l4 _ _ (Kd.C_below HR4.out HB.out) hc4 hl4).mono ?_); rintro e w2 ⟨rfl, hb2⟩; obtain ⟨hc2, hf2⟩ := bcell hb2; have hz : w.heap.size < w2.heap.size := Nat.lt_of_lt_of_le hz hb2.size; have HB' := Aside0.mk (HB.out.trans (hb2.mono HB.out.size)); clear HB hb2; have HB := HB'; clear HB'))
      | (go_at_call 58; ((with_reducible refine (rule_on a0 a1 a2 a3 A4 A5 A6 c4 c5 c6 l4 l5 l6 _ _ (Kd.C_below HR4.out HB.out) hc4 (Kd.C_below HR5.out HB.out) hc5 (Kd.C_below HR6.out HB.out) hc6 hl6).mono ?_); rintro e w2 ⟨rfl, hb2⟩; obtain ⟨hc2, hf2⟩ := bcell hb2; have hz : w.heap.size < w2.heap.size := Nat.lt_of_lt_of_le hz hb2.size; have HB' := Aside0.mk (HB.out.trans (hb2.mono HB.out.size)); clear HB hb2; have HB := HB'; clear HB'))
      | (go_at_call 59; ((with_reducible refine (recur_may a0 a1 a2 a3 A4 A5 A6 c4 c5 c6 l4 l5 l6 y d _ d0 m _ (Kd.C_below HR5.out HB.out) hc5 (Kd.C_below HR6.out HB.out) hc6 hl5 hl6 v1 v2 (by omega) (by omega) v5 v6).mono ?_); rintro e w2 ⟨rfl, hb2⟩; obtain ⟨hc2, hf2⟩ := bcell hb2; have hz : w.heap.size < w2.heap.size := Nat.lt_of_lt_of_le hz hb2.size; have HB' := Aside0.mk (HB.out.trans (hb2.mono HB.out.size)); clear HB hb2; have HB := HB'; clear HB')))
  go_ret
  exact ⟨ret_bool HF.out.symm, HB.out⟩
set_option maxRecDepth 100000 in
set_option maxHeartbeats 4000000 in
theorem recur_match_f3aN (a0 a1 a2 a3 : Int) (A4 A5 A6 : Option Addr) (c4 c5 c6 : Nat) (l4 l5 : List Int) (l6 : List S59) (first day y d y0 d0 : Int) (m m0 : Nat) (w : World)
    (hr4 : Kd.C (Kd.int .i64) w A4 l4.length l4) (hc4 : l4.length ≤ c4) (hr5 : Kd.C (Kd.int .i64) w A5 l5.length l5) (hc5 : l5.length ≤ c5) (hr6 : Kd.C k59 w A6 l6.length l6) (hc6 : l6.length ≤ c6)
    (hl4 : l4.length ≤ 1000000000) (hl5 : l5.length ≤ 1000000000) (hl6 : l6.length ≤ 1000000000)
    (hi0 : 1 ≤ a1) (hi1 : a1 ≤ 1000) (hf0 : 0 ≤ first) (hf1 : first ≤ 2932896) (hd0 : 0 ≤ day) (hd1 : day ≤ 2932896) (hcf : Cal.IsCivil first y0 m0 d0) (hcd : Cal.IsCivil day y m d) (hge : first ≤ day) (e4 : l4 ≠ []) (k4 : hasI l4 m = true) (ef : a0 = 3) (hr : ((12 * (y - y0) + (m : Int) - (m0 : Int)) % a1 == 0) = true) :
    Calls Tryz.prog 27 #[.agg #[.int .i64 a0, .int .i64 a1, .int .i64 a2, .int .i64 a3, .slice A4 l4.length c4, .slice A5 l5.length c5, .slice A6 l6.length c6], .int .i64 first, .int .i64 day] w fun e w' =>
      e = .returned (.bool (matchS a0 a1 l4 l5 l6 first day y m d y0 m0 d0)) ∧ Below w.heap.size w w' := by
  have hfin : matchS a0 a1 l4 l5 l6 first day y m d y0 m0 d0 = mayS l5 l6 (Cal.mlen y m) d ((day + 3) % 7) d0 := by
    unfold matchS
    rw [if_neg (by omega), if_neg (fun h => by rw [k4] at h; exact absurd h.2 (by decide)), if_neg (by omega), if_neg (by omega), if_pos ef, hr, Bool.true_and]
  have HF := Lib.hid hfin
  clear hfin
  have p4 : 0 < l4.length := List.length_pos_iff.mpr e4
  have z4 : decide (0 < l4.length) = true := decide_eq_true p4
  obtain ⟨hy, hm12⟩ := hcf.mono hcd hge
  have hmm : 0 ≤ 12 * (y - y0) + (m : Int) - (m0 : Int) := by omega
  clear hm12
  have g1 : (a0 == 1) = false := by rw [ef]; rfl
  have g2 : (a0 == 2) = false := by rw [ef]; rfl
  have g3 : (a0 == 3) = true := by rw [ef]; rfl
  clear ef
  have HR4 := Aside0.mk hr4
  have HR5 := Aside0.mk hr5
  have HR6 := Aside0.mk hr6
  have HCF := Aside0.mk hcf
  have HCD := Aside0.mk hcd
  clear hr4 hr5 hr6
  obtain ⟨u1, u2, u3, u4, u5, u6, -⟩ := hcf
  obtain ⟨v1, v2, v3, v4, v5, v6, -⟩ := hcd
  have mlF := mlen_le31 y0 m0
  have mlD := mlen_le31 y m
  have HB := Aside0.mk ((Below.refl w.heap.size w).alloc (Nat.le_refl _) (.cells #[.int .i64 a0, .int .i64 a1, .int .i64 a2, .int .i64 a3, .slice A4 l4.length c4, .slice A5 l5.length c5, .slice A6 l6.length c6] 25))
  have hz : w.heap.size < (w.alloc (.cells #[.int .i64 a0, .int .i64 a1, .int .i64 a2, .int .i64 a3, .slice A4 l4.length c4, .slice A5 l5.length c5, .slice A6 l6.length c6] 25)).heap.size := by simp
  clear e4
  go_enter Tryz.func27, Tryz.ntmps27
  go_wp2_with (first
      | (go_at_call 55; ((with_reducible refine (when_Civil_at hf0 hf1 HCF.out _).mono ?_); rintro e w2 ⟨rfl, hb2⟩; obtain ⟨hc2, hf2⟩ := bcell hb2; have hz : w.heap.size < w2.heap.size := Nat.lt_of_lt_of_le hz hb2.size; have HB' := Aside0.mk (HB.out.trans (hb2.mono HB.out.size)); clear HB hb2; have HB := HB'; clear HB'))
      | (go_at_call 55; ((with_reducible refine (when_Civil_at hd0 hd1 HCD.out _).mono ?_); rintro e w2 ⟨rfl, hb2⟩; obtain ⟨hc2, hf2⟩ := bcell hb2; have hz : w.heap.size < w2.heap.size := Nat.lt_of_lt_of_le hz hb2.size; have HB' := Aside0.mk (HB.out.trans (hb2.mono HB.out.size)); clear HB hb2; have HB := HB'; clear HB'))
      | (go_at_call 56; ((with_reducible refine (date_Weekday first hf0 hf1 _).mono ?_); rintro e w2 ⟨rfl, hb2⟩; obtain ⟨hc2, hf2⟩ := bcell hb2; have hz : w.heap.size < w2.heap.size := Nat.lt_of_lt_of_le hz hb2.size; have HB' := Aside0.mk (HB.out.trans (hb2.mono HB.out.size)); clear HB hb2; have HB := HB'; clear HB'))
      | (go_at_call 56; ((with_reducible refine (date_Weekday day hd0 hd1 _).mono ?_); rintro e w2 ⟨rfl, hb2⟩; obtain ⟨hc2, hf2⟩ := bcell hb2; have hz : w.heap.size < w2.heap.size := Nat.lt_of_lt_of_le hz hb2.size; have HB' := Aside0.mk (HB.out.trans (hb2.mono HB.out.size)); clear HB hb2; have HB := HB'; clear HB'))
      | (go_at_call 57; ((with_reducible refine (contains_int A4 c4 l4 _ _ (Kd.C_below HR4.out HB.out) hc4 hl4).mono ?_); rintro e w2 ⟨rfl, hb2⟩; obtain ⟨hc2, hf2⟩ := bcell hb2; have hz : w.heap.size < w2.heap.size := Nat.lt_of_lt_of_le hz hb2.size; have HB' := Aside0.mk (HB.out.trans (hb2.mono HB.out.size)); clear HB hb2; have HB := HB'; clear HB'))
      | (go_at_call 58; ((with_reducible refine (rule_on a0 a1 a2 a3 A4 A5 A6 c4 c5 c6 l4 l5 l6 _ _ (Kd.C_below HR4.out HB.out) hc4 (Kd.C_below HR5.out HB.out) hc5 (Kd.C_below HR6.out HB.out) hc6 hl6).mono ?_); rintro e w2 ⟨rfl, hb2⟩; obtain ⟨hc2, hf2⟩ := bcell hb2; have hz : w.heap.size < w2.heap.size := Nat.lt_of_lt_of_le hz hb2.size; have HB' := Aside0.mk (HB.out.trans (hb2.mono HB.out.size)); clear HB hb2; have HB := HB'; clear HB'))
      | (go_at_call 59; ((with_reducible refine (recur_may a0 a1 a2 a3 A4 A5 A6 c4 c5 c6 l4 l5 l6 y d _ d0 m _ (Kd.C_below HR5.out HB.out) hc5 (Kd.C_below HR6.out HB.out) hc6 hl5 hl6 v1 v2 (by omega) (by omega) v5 v6).mono ?_); rintro e w2 ⟨rfl, hb2⟩; obtain ⟨hc2, hf2⟩ := bcell hb2; have hz : w.heap.size < w2.heap.size := Nat.lt_of_lt_of_le hz hb2.size; have HB' := Aside0.mk (HB.out.trans (hb2.mono HB.out.size)); clear HB hb2; have HB := HB'; clear HB')))
  go_ret
  exact ⟨ret_bool HF.out.symm, HB.out⟩
set_option maxRecDepth 100000 in
set_option maxHeartbeats 4000000 in
theorem recur_match_f3bN (a0 a1 a2 a3 : Int) (A4 A5 A6 : Option Addr) (c4 c5 c6 : Nat) (l4 l5 : List Int) (l6 : List S59) (first day y d y0 d0 : Int) (m m0 : Nat) (w : World)
    (hr4 : Kd.C (Kd.int .i64) w A4 l4.length l4) (hc4 : l4.length ≤ c4) (hr5 : Kd.C (Kd.int .i64) w A5 l5.length l5) (hc5 : l5.length ≤ c5) (hr6 : Kd.C k59 w A6 l6.length l6) (hc6 : l6.length ≤ c6)
    (hl4 : l4.length ≤ 1000000000) (hl5 : l5.length ≤ 1000000000) (hl6 : l6.length ≤ 1000000000)
    (hi0 : 1 ≤ a1) (hi1 : a1 ≤ 1000) (hf0 : 0 ≤ first) (hf1 : first ≤ 2932896) (hd0 : 0 ≤ day) (hd1 : day ≤ 2932896) (hcf : Cal.IsCivil first y0 m0 d0) (hcd : Cal.IsCivil day y m d) (hge : first ≤ day) (e4 : l4 ≠ []) (k4 : hasI l4 m = true) (ef : a0 = 3) (hr : ((12 * (y - y0) + (m : Int) - (m0 : Int)) % a1 == 0) = false) :
    Calls Tryz.prog 27 #[.agg #[.int .i64 a0, .int .i64 a1, .int .i64 a2, .int .i64 a3, .slice A4 l4.length c4, .slice A5 l5.length c5, .slice A6 l6.length c6], .int .i64 first, .int .i64 day] w fun e w' =>
      e = .returned (.bool (matchS a0 a1 l4 l5 l6 first day y m d y0 m0 d0)) ∧ Below w.heap.size w w' := by
  have hfin : matchS a0 a1 l4 l5 l6 first day y m d y0 m0 d0 = false := by
    unfold matchS
    rw [if_neg (by omega), if_neg (fun h => by rw [k4] at h; exact absurd h.2 (by decide)), if_neg (by omega), if_neg (by omega), if_pos ef, hr, Bool.false_and]
  have HF := Lib.hid hfin
  clear hfin
  have p4 : 0 < l4.length := List.length_pos_iff.mpr e4
  have z4 : decide (0 < l4.length) = true := decide_eq_true p4
  obtain ⟨hy, hm12⟩ := hcf.mono hcd hge
  have hmm : 0 ≤ 12 * (y - y0) + (m : Int) - (m0 : Int) := by omega
  clear hm12
  have g1 : (a0 == 1) = false := by rw [ef]; rfl
  have g2 : (a0 == 2) = false := by rw [ef]; rfl
  have g3 : (a0 == 3) = true := by rw [ef]; rfl
  clear ef
  have HR4 := Aside0.mk hr4
  have HR5 := Aside0.mk hr5
  have HR6 := Aside0.mk hr6
  have HCF := Aside0.mk hcf
  have HCD := Aside0.mk hcd
  clear hr4 hr5 hr6
  obtain ⟨u1, u2, u3, u4, u5, u6, -⟩ := hcf
  obtain ⟨v1, v2, v3, v4, v5, v6, -⟩ := hcd
  have mlF := mlen_le31 y0 m0
  have mlD := mlen_le31 y m
  have HB := Aside0.mk ((Below.refl w.heap.size w).alloc (Nat.le_refl _) (.cells #[.int .i64 a0, .int .i64 a1, .int .i64 a2, .int .i64 a3, .slice A4 l4.length c4, .slice A5 l5.length c5, .slice A6 l6.length c6] 25))
  have hz : w.heap.size < (w.alloc (.cells #[.int .i64 a0, .int .i64 a1, .int .i64 a2, .int .i64 a3, .slice A4 l4.length c4, .slice A5 l5.length c5, .slice A6 l6.length c6] 25)).heap.size := by simp
  clear e4
  go_enter Tryz.func27, Tryz.ntmps27
  go_wp2_with (first
      | (go_at_call 55; ((with_reducible refine (when_Civil_at hf0 hf1 HCF.out _).mono ?_); rintro e w2 ⟨rfl, hb2⟩; obtain ⟨hc2, hf2⟩ := bcell hb2; have hz : w.heap.size < w2.heap.size := Nat.lt_of_lt_of_le hz hb2.size; have HB' := Aside0.mk (HB.out.trans (hb2.mono HB.out.size)); clear HB hb2; have HB := HB'; clear HB'))
      | (go_at_call 55; ((with_reducible refine (when_Civil_at hd0 hd1 HCD.out _).mono ?_); rintro e w2 ⟨rfl, hb2⟩; obtain ⟨hc2, hf2⟩ := bcell hb2; have hz : w.heap.size < w2.heap.size := Nat.lt_of_lt_of_le hz hb2.size; have HB' := Aside0.mk (HB.out.trans (hb2.mono HB.out.size)); clear HB hb2; have HB := HB'; clear HB'))
      | (go_at_call 56; ((with_reducible refine (date_Weekday first hf0 hf1 _).mono ?_); rintro e w2 ⟨rfl, hb2⟩; obtain ⟨hc2, hf2⟩ := bcell hb2; have hz : w.heap.size < w2.heap.size := Nat.lt_of_lt_of_le hz hb2.size; have HB' := Aside0.mk (HB.out.trans (hb2.mono HB.out.size)); clear HB hb2; have HB := HB'; clear HB'))
      | (go_at_call 56; ((with_reducible refine (date_Weekday day hd0 hd1 _).mono ?_); rintro e w2 ⟨rfl, hb2⟩; obtain ⟨hc2, hf2⟩ := bcell hb2; have hz : w.heap.size < w2.heap.size := Nat.lt_of_lt_of_le hz hb2.size; have HB' := Aside0.mk (HB.out.trans (hb2.mono HB.out.size)); clear HB hb2; have HB := HB'; clear HB'))
      | (go_at_call 57; ((with_reducible refine (contains_int A4 c4 l4 _ _ (Kd.C_below HR4.out HB.out) hc4 hl4).mono ?_); rintro e w2 ⟨rfl, hb2⟩; obtain ⟨hc2, hf2⟩ := bcell hb2; have hz : w.heap.size < w2.heap.size := Nat.lt_of_lt_of_le hz hb2.size; have HB' := Aside0.mk (HB.out.trans (hb2.mono HB.out.size)); clear HB hb2; have HB := HB'; clear HB'))
      | (go_at_call 58; ((with_reducible refine (rule_on a0 a1 a2 a3 A4 A5 A6 c4 c5 c6 l4 l5 l6 _ _ (Kd.C_below HR4.out HB.out) hc4 (Kd.C_below HR5.out HB.out) hc5 (Kd.C_below HR6.out HB.out) hc6 hl6).mono ?_); rintro e w2 ⟨rfl, hb2⟩; obtain ⟨hc2, hf2⟩ := bcell hb2; have hz : w.heap.size < w2.heap.size := Nat.lt_of_lt_of_le hz hb2.size; have HB' := Aside0.mk (HB.out.trans (hb2.mono HB.out.size)); clear HB hb2; have HB := HB'; clear HB'))
      | (go_at_call 59; ((with_reducible refine (recur_may a0 a1 a2 a3 A4 A5 A6 c4 c5 c6 l4 l5 l6 y d _ d0 m _ (Kd.C_below HR5.out HB.out) hc5 (Kd.C_below HR6.out HB.out) hc6 hl5 hl6 v1 v2 (by omega) (by omega) v5 v6).mono ?_); rintro e w2 ⟨rfl, hb2⟩; obtain ⟨hc2, hf2⟩ := bcell hb2; have hz : w.heap.size < w2.heap.size := Nat.lt_of_lt_of_le hz hb2.size; have HB' := Aside0.mk (HB.out.trans (hb2.mono HB.out.size)); clear HB hb2; have HB := HB'; clear HB')))
  go_ret
  exact ⟨ret_bool HF.out.symm, HB.out⟩
set_option maxRecDepth 100000 in
set_option maxHeartbeats 4000000 in
theorem recur_match_f4bN (a0 a1 a2 a3 : Int) (A4 A5 A6 : Option Addr) (c4 c5 c6 : Nat) (l4 l5 : List Int) (l6 : List S59) (first day y d y0 d0 : Int) (m m0 : Nat) (w : World)
    (hr4 : Kd.C (Kd.int .i64) w A4 l4.length l4) (hc4 : l4.length ≤ c4) (hr5 : Kd.C (Kd.int .i64) w A5 l5.length l5) (hc5 : l5.length ≤ c5) (hr6 : Kd.C k59 w A6 l6.length l6) (hc6 : l6.length ≤ c6)
    (hl4 : l4.length ≤ 1000000000) (hl5 : l5.length ≤ 1000000000) (hl6 : l6.length ≤ 1000000000)
    (hi0 : 1 ≤ a1) (hi1 : a1 ≤ 1000) (hf0 : 0 ≤ first) (hf1 : first ≤ 2932896) (hd0 : 0 ≤ day) (hd1 : day ≤ 2932896) (hcf : Cal.IsCivil first y0 m0 d0) (hcd : Cal.IsCivil day y m d) (hge : first ≤ day) (e4 : l4 ≠ []) (k4 : hasI l4 m = true) (ef : a0 = 4) (hr : ((y - y0) % a1 == 0) = false) :
    Calls Tryz.prog 27 #[.agg #[.int .i64 a0, .int .i64 a1, .int .i64 a2, .int .i64 a3, .slice A4 l4.length c4, .slice A5 l5.length c5, .slice A6 l6.length c6], .int .i64 first, .int .i64 day] w fun e w' =>
      e = .returned (.bool (matchS a0 a1 l4 l5 l6 first day y m d y0 m0 d0)) ∧ Below w.heap.size w w' := by
  have hfin : matchS a0 a1 l4 l5 l6 first day y m d y0 m0 d0 = false := by
    unfold matchS
    rw [if_neg (by omega), if_neg (fun h => by rw [k4] at h; exact absurd h.2 (by decide)), if_neg (by omega), if_neg (by omega), if_neg (by omega), hr, Bool.false_and, Bool.false_and]
  have HF := Lib.hid hfin
  clear hfin
  have p4 : 0 < l4.length := List.length_pos_iff.mpr e4
  have z4 : decide (0 < l4.length) = true := decide_eq_true p4
  obtain ⟨hy, hm12⟩ := hcf.mono hcd hge
  clear hm12
  have g1 : (a0 == 1) = false := by rw [ef]; rfl
  have g2 : (a0 == 2) = false := by rw [ef]; rfl
  have g3 : (a0 == 3) = false := by rw [ef]; rfl
  clear ef
  have HR4 := Aside0.mk hr4
  have HR5 := Aside0.mk hr5
  have HR6 := Aside0.mk hr6
  have HCF := Aside0.mk hcf
  have HCD := Aside0.mk hcd
  clear hr4 hr5 hr6
  obtain ⟨u1, u2, u3, u4, u5, u6, -⟩ := hcf
  obtain ⟨v1, v2, v3, v4, v5, v6, -⟩ := hcd
  have mlF := mlen_le31 y0 m0
  have mlD := mlen_le31 y m
  have HB := Aside0.mk ((Below.refl w.heap.size w).alloc (Nat.le_refl _) (.cells #[.int .i64 a0, .int .i64 a1, .int .i64 a2, .int .i64 a3, .slice A4 l4.length c4, .slice A5 l5.length c5, .slice A6 l6.length c6] 25))
  have hz : w.heap.size < (w.alloc (.cells #[.int .i64 a0, .int .i64 a1, .int .i64 a2, .int .i64 a3, .slice A4 l4.length c4, .slice A5 l5.length c5, .slice A6 l6.length c6] 25)).heap.size := by simp
  clear e4
  go_enter Tryz.func27, Tryz.ntmps27
  go_wp2_with (first
      | (go_at_call 55; ((with_reducible refine (when_Civil_at hf0 hf1 HCF.out _).mono ?_); rintro e w2 ⟨rfl, hb2⟩; obtain ⟨hc2, hf2⟩ := bcell hb2; have hz : w.heap.size < w2.heap.size := Nat.lt_of_lt_of_le hz hb2.size; have HB' := Aside0.mk (HB.out.trans (hb2.mono HB.out.size)); clear HB hb2; have HB := HB'; clear HB'))
      | (go_at_call 55; ((with_reducible refine (when_Civil_at hd0 hd1 HCD.out _).mono ?_); rintro e w2 ⟨rfl, hb2⟩; obtain ⟨hc2, hf2⟩ := bcell hb2; have hz : w.heap.size < w2.heap.size := Nat.lt_of_lt_of_le hz hb2.size; have HB' := Aside0.mk (HB.out.trans (hb2.mono HB.out.size)); clear HB hb2; have HB := HB'; clear HB'))
      | (go_at_call 56; ((with_reducible refine (date_Weekday first hf0 hf1 _).mono ?_); rintro e w2 ⟨rfl, hb2⟩; obtain ⟨hc2, hf2⟩ := bcell hb2; have hz : w.heap.size < w2.heap.size := Nat.lt_of_lt_of_le hz hb2.size; have HB' := Aside0.mk (HB.out.trans (hb2.mono HB.out.size)); clear HB hb2; have HB := HB'; clear HB'))
      | (go_at_call 56; ((with_reducible refine (date_Weekday day hd0 hd1 _).mono ?_); rintro e w2 ⟨rfl, hb2⟩; obtain ⟨hc2, hf2⟩ := bcell hb2; have hz : w.heap.size < w2.heap.size := Nat.lt_of_lt_of_le hz hb2.size; have HB' := Aside0.mk (HB.out.trans (hb2.mono HB.out.size)); clear HB hb2; have HB := HB'; clear HB'))
      | (go_at_call 57; ((with_reducible refine (contains_int A4 c4 l4 _ _ (Kd.C_below HR4.out HB.out) hc4 hl4).mono ?_); rintro e w2 ⟨rfl, hb2⟩; obtain ⟨hc2, hf2⟩ := bcell hb2; have hz : w.heap.size < w2.heap.size := Nat.lt_of_lt_of_le hz hb2.size; have HB' := Aside0.mk (HB.out.trans (hb2.mono HB.out.size)); clear HB hb2; have HB := HB'; clear HB'))
      | (go_at_call 58; ((with_reducible refine (rule_on a0 a1 a2 a3 A4 A5 A6 c4 c5 c6 l4 l5 l6 _ _ (Kd.C_below HR4.out HB.out) hc4 (Kd.C_below HR5.out HB.out) hc5 (Kd.C_below HR6.out HB.out) hc6 hl6).mono ?_); rintro e w2 ⟨rfl, hb2⟩; obtain ⟨hc2, hf2⟩ := bcell hb2; have hz : w.heap.size < w2.heap.size := Nat.lt_of_lt_of_le hz hb2.size; have HB' := Aside0.mk (HB.out.trans (hb2.mono HB.out.size)); clear HB hb2; have HB := HB'; clear HB'))
      | (go_at_call 59; ((with_reducible refine (recur_may a0 a1 a2 a3 A4 A5 A6 c4 c5 c6 l4 l5 l6 y d _ d0 m _ (Kd.C_below HR5.out HB.out) hc5 (Kd.C_below HR6.out HB.out) hc6 hl5 hl6 v1 v2 (by omega) (by omega) v5 v6).mono ?_); rintro e w2 ⟨rfl, hb2⟩; obtain ⟨hc2, hf2⟩ := bcell hb2; have hz : w.heap.size < w2.heap.size := Nat.lt_of_lt_of_le hz hb2.size; have HB' := Aside0.mk (HB.out.trans (hb2.mono HB.out.size)); clear HB hb2; have HB := HB'; clear HB')))
  go_ret
  exact ⟨ret_bool HF.out.symm, HB.out⟩
set_option maxRecDepth 100000 in
set_option maxHeartbeats 4000000 in
theorem recur_match_f4aN (a0 a1 a2 a3 : Int) (A4 A5 A6 : Option Addr) (c4 c5 c6 : Nat) (l4 l5 : List Int) (l6 : List S59) (first day y d y0 d0 : Int) (m m0 : Nat) (w : World)
    (hr4 : Kd.C (Kd.int .i64) w A4 l4.length l4) (hc4 : l4.length ≤ c4) (hr5 : Kd.C (Kd.int .i64) w A5 l5.length l5) (hc5 : l5.length ≤ c5) (hr6 : Kd.C k59 w A6 l6.length l6) (hc6 : l6.length ≤ c6)
    (hl4 : l4.length ≤ 1000000000) (hl5 : l5.length ≤ 1000000000) (hl6 : l6.length ≤ 1000000000)
    (hi0 : 1 ≤ a1) (hi1 : a1 ≤ 1000) (hf0 : 0 ≤ first) (hf1 : first ≤ 2932896) (hd0 : 0 ≤ day) (hd1 : day ≤ 2932896) (hcf : Cal.IsCivil first y0 m0 d0) (hcd : Cal.IsCivil day y m d) (hge : first ≤ day) (e4 : l4 ≠ []) (k4 : hasI l4 m = true) (ef : a0 = 4) (hr : ((y - y0) % a1 == 0) = true) :
    Calls Tryz.prog 27 #[.agg #[.int .i64 a0, .int .i64 a1, .int .i64 a2, .int .i64 a3, .slice A4 l4.length c4, .slice A5 l5.length c5, .slice A6 l6.length c6], .int .i64 first, .int .i64 day] w fun e w' =>
      e = .returned (.bool (matchS a0 a1 l4 l5 l6 first day y m d y0 m0 d0)) ∧ Below w.heap.size w w' := by
  have hfin : matchS a0 a1 l4 l5 l6 first day y m d y0 m0 d0 = mayS l5 l6 (Cal.mlen y m) d ((day + 3) % 7) d0 := by
    unfold matchS
    rw [if_neg (by omega), if_neg (fun h => by rw [k4] at h; exact absurd h.2 (by decide)), if_neg (by omega), if_neg (by omega), if_neg (by omega), hr, Bool.true_and, decide_eq_true e4, Bool.true_or, Bool.true_and]
  have HF := Lib.hid hfin
  clear hfin
  have p4 : 0 < l4.length := List.length_pos_iff.mpr e4
  have z4 : decide (0 < l4.length) = true := decide_eq_true p4
  obtain ⟨hy, hm12⟩ := hcf.mono hcd hge
  clear hm12
  have g1 : (a0 == 1) = false := by rw [ef]; rfl
  have g2 : (a0 == 2) = false := by rw [ef]; rfl
  have g3 : (a0 == 3) = false := by rw [ef]; rfl
  clear ef
  have HR4 := Aside0.mk hr4
  have HR5 := Aside0.mk hr5
  have HR6 := Aside0.mk hr6
  have HCF := Aside0.mk hcf
  have HCD := Aside0.mk hcd
  clear hr4 hr5 hr6
  obtain ⟨u1, u2, u3, u4, u5, u6, -⟩ := hcf
  obtain ⟨v1, v2, v3, v4, v5, v6, -⟩ := hcd
  have mlF := mlen_le31 y0 m0
  have mlD := mlen_le31 y m
  have HB := Aside0.mk ((Below.refl w.heap.size w).alloc (Nat.le_refl _) (.cells #[.int .i64 a0, .int .i64 a1, .int .i64 a2, .int .i64 a3, .slice A4 l4.length c4, .slice A5 l5.length c5, .slice A6 l6.length c6] 25))
  have hz : w.heap.size < (w.alloc (.cells #[.int .i64 a0, .int .i64 a1, .int .i64 a2, .int .i64 a3, .slice A4 l4.length c4, .slice A5 l5.length c5, .slice A6 l6.length c6] 25)).heap.size := by simp
  clear e4
  go_enter Tryz.func27, Tryz.ntmps27
  go_wp2_with (first
      | (go_at_call 55; ((with_reducible refine (when_Civil_at hf0 hf1 HCF.out _).mono ?_); rintro e w2 ⟨rfl, hb2⟩; obtain ⟨hc2, hf2⟩ := bcell hb2; have hz : w.heap.size < w2.heap.size := Nat.lt_of_lt_of_le hz hb2.size; have HB' := Aside0.mk (HB.out.trans (hb2.mono HB.out.size)); clear HB hb2; have HB := HB'; clear HB'))
      | (go_at_call 55; ((with_reducible refine (when_Civil_at hd0 hd1 HCD.out _).mono ?_); rintro e w2 ⟨rfl, hb2⟩; obtain ⟨hc2, hf2⟩ := bcell hb2; have hz : w.heap.size < w2.heap.size := Nat.lt_of_lt_of_le hz hb2.size; have HB' := Aside0.mk (HB.out.trans (hb2.mono HB.out.size)); clear HB hb2; have HB := HB'; clear HB'))
      | (go_at_call 56; ((with_reducible refine (date_Weekday first hf0 hf1 _).mono ?_); rintro e w2 ⟨rfl, hb2⟩; obtain ⟨hc2, hf2⟩ := bcell hb2; have hz : w.heap.size < w2.heap.size := Nat.lt_of_lt_of_le hz hb2.size; have HB' := Aside0.mk (HB.out.trans (hb2.mono HB.out.size)); clear HB hb2; have HB := HB'; clear HB'))
      | (go_at_call 56; ((with_reducible refine (date_Weekday day hd0 hd1 _).mono ?_); rintro e w2 ⟨rfl, hb2⟩; obtain ⟨hc2, hf2⟩ := bcell hb2; have hz : w.heap.size < w2.heap.size := Nat.lt_of_lt_of_le hz hb2.size; have HB' := Aside0.mk (HB.out.trans (hb2.mono HB.out.size)); clear HB hb2; have HB := HB'; clear HB'))
      | (go_at_call 57; ((with_reducible refine (contains_int A4 c4 l4 _ _ (Kd.C_below HR4.out HB.out) hc4 hl4).mono ?_); rintro e w2 ⟨rfl, hb2⟩; obtain ⟨hc2, hf2⟩ := bcell hb2; have hz : w.heap.size < w2.heap.size := Nat.lt_of_lt_of_le hz hb2.size; have HB' := Aside0.mk (HB.out.trans (hb2.mono HB.out.size)); clear HB hb2; have HB := HB'; clear HB'))
      | (go_at_call 58; ((with_reducible refine (rule_on a0 a1 a2 a3 A4 A5 A6 c4 c5 c6 l4 l5 l6 _ _ (Kd.C_below HR4.out HB.out) hc4 (Kd.C_below HR5.out HB.out) hc5 (Kd.C_below HR6.out HB.out) hc6 hl6).mono ?_); rintro e w2 ⟨rfl, hb2⟩; obtain ⟨hc2, hf2⟩ := bcell hb2; have hz : w.heap.size < w2.heap.size := Nat.lt_of_lt_of_le hz hb2.size; have HB' := Aside0.mk (HB.out.trans (hb2.mono HB.out.size)); clear HB hb2; have HB := HB'; clear HB'))
      | (go_at_call 59; ((with_reducible refine (recur_may a0 a1 a2 a3 A4 A5 A6 c4 c5 c6 l4 l5 l6 y d _ d0 m _ (Kd.C_below HR5.out HB.out) hc5 (Kd.C_below HR6.out HB.out) hc6 hl5 hl6 v1 v2 (by omega) (by omega) v5 v6).mono ?_); rintro e w2 ⟨rfl, hb2⟩; obtain ⟨hc2, hf2⟩ := bcell hb2; have hz : w.heap.size < w2.heap.size := Nat.lt_of_lt_of_le hz hb2.size; have HB' := Aside0.mk (HB.out.trans (hb2.mono HB.out.size)); clear HB hb2; have HB := HB'; clear HB')))
  go_ret
  exact ⟨ret_bool HF.out.symm, HB.out⟩
end Go.Proofs.YtfbmjonhohebiaaGreatDoor
end
section
set_option linter.unusedVariables false
set_option linter.unusedSimpArgs false
namespace Go.Proofs.YtfbmjonhohebiaaGreatDoor
open Go.RowKit Go.Proofs.YtfbmjonhohebiaaGreatDoorW.PrintWords Go.Proofs.YtfbmjonhohebiaaGreatDoorW.PrintLast Go.Proofs.YtfbmjonhohebiaaGreatDoorW.PrintMore PRecurExpands
open Classical in
noncomputable def civ (n : Int) : Int × Int × Int := if h : ∃ p : Int × Int × Int, Cal.IsCivil n p.1 p.2.1 p.2.2 then h.choose else (0, 0, 0)
theorem civ_spec {n : Int} (h0 : 0 ≤ n) (h1 : n ≤ 2932896) : Cal.IsCivil n (civ n).1 (civ n).2.1 (civ n).2.2 := by
  obtain ⟨y, m, d, h⟩ := civil_some n h0 h1
  have hex : ∃ p : Int × Int × Int, Cal.IsCivil n p.1 p.2.1 p.2.2 := ⟨(y, m, d), h⟩
  unfold civ
  rw [dif_pos hex]
  exact hex.choose_spec
theorem civ_eq {n y m d : Int} (h0 : 0 ≤ n) (h1 : n ≤ 2932896) (h : Cal.IsCivil n y m d) : civ n = (y, m, d) := by
  obtain ⟨e1, e2, e3⟩ := (civ_spec h0 h1).uniq h
  exact Prod.ext e1 (Prod.ext e2 e3)
noncomputable def matchV (f i : Int) (l4 l5 : List Int) (l6 : List S59) (first day : Int) : Bool :=
  matchS f i l4 l5 l6 first day (civ day).1 (civ day).2.1 (civ day).2.2 (civ first).1 (civ first).2.1 (civ first).2.2
theorem recur_match (a0 a1 a2 a3 : Int) (A4 A5 A6 : Option Addr) (c4 c5 c6 : Nat) (l4 l5 : List Int) (l6 : List S59) (first day : Int) (w : World)
    (hr4 : Kd.C (Kd.int .i64) w A4 l4.length l4) (hc4 : l4.length ≤ c4) (hr5 : Kd.C (Kd.int .i64) w A5 l5.length l5) (hc5 : l5.length ≤ c5) (hr6 : Kd.C k59 w A6 l6.length l6) (hc6 : l6.length ≤ c6)
    (hl4 : l4.length ≤ 1000000000) (hl5 : l5.length ≤ 1000000000) (hl6 : l6.length ≤ 1000000000)
    (hg0 : 1 ≤ a0) (hg1 : a0 ≤ 4) (hi0 : 1 ≤ a1) (hi1 : a1 ≤ 1000) (hf0 : 0 ≤ first) (hf1 : first ≤ 2932896) (hd0 : 0 ≤ day) (hd1 : day ≤ 2932896) :
    Calls Tryz.prog 27 #[.agg #[.int .i64 a0, .int .i64 a1, .int .i64 a2, .int .i64 a3, .slice A4 l4.length c4, .slice A5 l5.length c5, .slice A6 l6.length c6], .int .i64 first, .int .i64 day] w fun e w' =>
      e = .returned (.bool (matchV a0 a1 l4 l5 l6 first day)) ∧ Below w.heap.size w w' := by
  have hcf := civ_spec hf0 hf1
  have hcd := civ_spec hd0 hd1
  unfold matchV
  revert hcf hcd
  generalize (civ first).1 = y0, (civ first).2.1 = m0, (civ first).2.2 = d0, (civ day).1 = y, (civ day).2.1 = m, (civ day).2.2 = d
  intro hcf hcd
  obtain ⟨M, rfl⟩ : ∃ M : Nat, m = M := ⟨m.toNat, by have := hcd.m0; omega⟩
  obtain ⟨M0, rfl⟩ : ∃ M0 : Nat, m0 = M0 := ⟨m0.toNat, by have := hcf.m0; omega⟩
  have bt : ∀ {b : Bool}, ¬ b = true → b = false := fun h => by simpa using h
  by_cases hlt : day < first
  · exact recur_match_early a0 a1 a2 a3 A4 A5 A6 c4 c5 c6 l4 l5 l6 first day y d y0 d0 M M0 w hr4 hc4 hr5 hc5 hr6 hc6 hl4 hl5 hl6 hi0 hi1 hf0 hf1 hd0 hd1 hcf hcd hlt
  have hge : first ≤ day := by omega
  by_cases e4 : l4 = []
  · by_cases ef1 : a0 = 1
    · by_cases hr : ((day - first) % a1 == 0) = true
      · exact recur_match_f1aE a0 a1 a2 a3 A4 A5 A6 c4 c5 c6 l4 l5 l6 first day y d y0 d0 M M0 w hr4 hc4 hr5 hc5 hr6 hc6 hl4 hl5 hl6 hi0 hi1 hf0 hf1 hd0 hd1 hcf hcd hge e4 ef1 hr
      · exact recur_match_f1bE a0 a1 a2 a3 A4 A5 A6 c4 c5 c6 l4 l5 l6 first day y d y0 d0 M M0 w hr4 hc4 hr5 hc5 hr6 hc6 hl4 hl5 hl6 hi0 hi1 hf0 hf1 hd0 hd1 hcf hcd hge e4 ef1 (bt hr)
    by_cases ef2 : a0 = 2
    · by_cases hr : ((day - (day + 3) % 7 - first + (first + 3) % 7) / 7 % a1 == 0) = true
      · by_cases e6 : l6 = []
        · exact recur_match_f2eE a0 a1 a2 a3 A4 A5 A6 c4 c5 c6 l4 l5 l6 first day y d y0 d0 M M0 w hr4 hc4 hr5 hc5 hr6 hc6 hl4 hl5 hl6 hi0 hi1 hf0 hf1 hd0 hd1 hcf hcd hge e4 ef2 hr e6
        · by_cases ho : onS l6 ((day + 3) % 7) = true
          · exact recur_match_f2tE a0 a1 a2 a3 A4 A5 A6 c4 c5 c6 l4 l5 l6 first day y d y0 d0 M M0 w hr4 hc4 hr5 hc5 hr6 hc6 hl4 hl5 hl6 hi0 hi1 hf0 hf1 hd0 hd1 hcf hcd hge e4 ef2 hr e6 ho
          · exact recur_match_f2fE a0 a1 a2 a3 A4 A5 A6 c4 c5 c6 l4 l5 l6 first day y d y0 d0 M M0 w hr4 hc4 hr5 hc5 hr6 hc6 hl4 hl5 hl6 hi0 hi1 hf0 hf1 hd0 hd1 hcf hcd hge e4 ef2 hr e6 (bt ho)
      · exact recur_match_f2bE a0 a1 a2 a3 A4 A5 A6 c4 c5 c6 l4 l5 l6 first day y d y0 d0 M M0 w hr4 hc4 hr5 hc5 hr6 hc6 hl4 hl5 hl6 hi0 hi1 hf0 hf1 hd0 hd1 hcf hcd hge e4 ef2 (bt hr)
    by_cases ef3 : a0 = 3
    · by_cases hr : ((12 * (y - y0) + (M : Int) - (M0 : Int)) % a1 == 0) = true
      · exact recur_match_f3aE a0 a1 a2 a3 A4 A5 A6 c4 c5 c6 l4 l5 l6 first day y d y0 d0 M M0 w hr4 hc4 hr5 hc5 hr6 hc6 hl4 hl5 hl6 hi0 hi1 hf0 hf1 hd0 hd1 hcf hcd hge e4 ef3 hr
      · exact recur_match_f3bE a0 a1 a2 a3 A4 A5 A6 c4 c5 c6 l4 l5 l6 first day y d y0 d0 M M0 w hr4 hc4 hr5 hc5 hr6 hc6 hl4 hl5 hl6 hi0 hi1 hf0 hf1 hd0 hd1 hcf hcd hge e4 ef3 (bt hr)
    have ef4 : a0 = 4 := by omega
    by_cases hr : ((y - y0) % a1 == 0) = true
    · by_cases he : ((M : Int) == (M0 : Int)) = true
      · exact recur_match_f4tE a0 a1 a2 a3 A4 A5 A6 c4 c5 c6 l4 l5 l6 first day y d y0 d0 M M0 w hr4 hc4 hr5 hc5 hr6 hc6 hl4 hl5 hl6 hi0 hi1 hf0 hf1 hd0 hd1 hcf hcd hge e4 ef4 hr he
      · exact recur_match_f4fE a0 a1 a2 a3 A4 A5 A6 c4 c5 c6 l4 l5 l6 first day y d y0 d0 M M0 w hr4 hc4 hr5 hc5 hr6 hc6 hl4 hl5 hl6 hi0 hi1 hf0 hf1 hd0 hd1 hcf hcd hge e4 ef4 hr (bt he)
    · exact recur_match_f4bE a0 a1 a2 a3 A4 A5 A6 c4 c5 c6 l4 l5 l6 first day y d y0 d0 M M0 w hr4 hc4 hr5 hc5 hr6 hc6 hl4 hl5 hl6 hi0 hi1 hf0 hf1 hd0 hd1 hcf hcd hge e4 ef4 (bt hr)
  · by_cases k4 : hasI l4 M = true
    · by_cases ef1 : a0 = 1
      · by_cases hr : ((day - first) % a1 == 0) = true
        · exact recur_match_f1aN a0 a1 a2 a3 A4 A5 A6 c4 c5 c6 l4 l5 l6 first day y d y0 d0 M M0 w hr4 hc4 hr5 hc5 hr6 hc6 hl4 hl5 hl6 hi0 hi1 hf0 hf1 hd0 hd1 hcf hcd hge e4 k4 ef1 hr
        · exact recur_match_f1bN a0 a1 a2 a3 A4 A5 A6 c4 c5 c6 l4 l5 l6 first day y d y0 d0 M M0 w hr4 hc4 hr5 hc5 hr6 hc6 hl4 hl5 hl6 hi0 hi1 hf0 hf1 hd0 hd1 hcf hcd hge e4 k4 ef1 (bt hr)
      by_cases ef2 : a0 = 2
      · by_cases hr : ((day - (day + 3) % 7 - first + (first + 3) % 7) / 7 % a1 == 0) = true
        · by_cases e6 : l6 = []
          · exact recur_match_f2eN a0 a1 a2 a3 A4 A5 A6 c4 c5 c6 l4 l5 l6 first day y d y0 d0 M M0 w hr4 hc4 hr5 hc5 hr6 hc6 hl4 hl5 hl6 hi0 hi1 hf0 hf1 hd0 hd1 hcf hcd hge e4 k4 ef2 hr e6
          · by_cases ho : onS l6 ((day + 3) % 7) = true
            · exact recur_match_f2tN a0 a1 a2 a3 A4 A5 A6 c4 c5 c6 l4 l5 l6 first day y d y0 d0 M M0 w hr4 hc4 hr5 hc5 hr6 hc6 hl4 hl5 hl6 hi0 hi1 hf0 hf1 hd0 hd1 hcf hcd hge e4 k4 ef2 hr e6 ho
            · exact recur_match_f2fN a0 a1 a2 a3 A4 A5 A6 c4 c5 c6 l4 l5 l6 first day y d y0 d0 M M0 w hr4 hc4 hr5 hc5 hr6 hc6 hl4 hl5 hl6 hi0 hi1 hf0 hf1 hd0 hd1 hcf hcd hge e4 k4 ef2 hr e6 (bt ho)
        · exact recur_match_f2bN a0 a1 a2 a3 A4 A5 A6 c4 c5 c6 l4 l5 l6 first day y d y0 d0 M M0 w hr4 hc4 hr5 hc5 hr6 hc6 hl4 hl5 hl6 hi0 hi1 hf0 hf1 hd0 hd1 hcf hcd hge e4 k4 ef2 (bt hr)
      by_cases ef3 : a0 = 3
      · by_cases hr : ((12 * (y - y0) + (M : Int) - (M0 : Int)) % a1 == 0) = true
        · exact recur_match_f3aN a0 a1 a2 a3 A4 A5 A6 c4 c5 c6 l4 l5 l6 first day y d y0 d0 M M0 w hr4 hc4 hr5 hc5 hr6 hc6 hl4 hl5 hl6 hi0 hi1 hf0 hf1 hd0 hd1 hcf hcd hge e4 k4 ef3 hr
        · exact recur_match_f3bN a0 a1 a2 a3 A4 A5 A6 c4 c5 c6 l4 l5 l6 first day y d y0 d0 M M0 w hr4 hc4 hr5 hc5 hr6 hc6 hl4 hl5 hl6 hi0 hi1 hf0 hf1 hd0 hd1 hcf hcd hge e4 k4 ef3 (bt hr)
      have ef4 : a0 = 4 := by omega
      by_cases hr : ((y - y0) % a1 == 0) = true
      · exact recur_match_f4aN a0 a1 a2 a3 A4 A5 A6 c4 c5 c6 l4 l5 l6 first day y d y0 d0 M M0 w hr4 hc4 hr5 hc5 hr6 hc6 hl4 hl5 hl6 hi0 hi1 hf0 hf1 hd0 hd1 hcf hcd hge e4 k4 ef4 hr
      · exact recur_match_f4bN a0 a1 a2 a3 A4 A5 A6 c4 c5 c6 l4 l5 l6 first day y d y0 d0 M M0 w hr4 hc4 hr5 hc5 hr6 hc6 hl4 hl5 hl6 hi0 hi1 hf0 hf1 hd0 hd1 hcf hcd hge e4 k4 ef4 (bt hr)
    · exact recur_match_month a0 a1 a2 a3 A4 A5 A6 c4 c5 c6 l4 l5 l6 first day y d y0 d0 M M0 w hr4 hc4 hr5 hc5 hr6 hc6 hl4 hl5 hl6 hi0 hi1 hf0 hf1 hd0 hd1 hcf hcd hge e4 (bt k4)
def isDayS (n : Int) : Bool := decide (0 ≤ n) && decide (n ≤ 2932896)
theorem recur_isDay_c (n : Int) (w : World) : Calls Tryz.prog 26 #[.int .i64 n] w fun e w' => e = .returned (.bool (isDayS n)) ∧ Below w.heap.size w w' := by
  have hk : recur_isDay.f n = some (isDayS n) := by
    unfold recur_isDay.f isDayS
    by_cases h : n ≥ 0
    · rw [if_pos h]; simp [h]
    · rw [if_neg h]; simp; omega
  exact (recur_isDay.calls n _ w hk).mono fun e w' h => ⟨h.1, h.2.below⟩
theorem recur_Right_c (a0 a1 a2 a3 : Int) (A4 A5 A6 : Option Addr) (c4 c5 c6 : Nat) (l4 l5 : List Int) (l6 : List S59) (b : Bool) (hb : b = true ↔ RightP a0 a1 a2 a3 l4 l5 l6) (w : World)
    (hr4 : Kd.C (Kd.int .i64) w A4 l4.length l4) (hc4 : l4.length ≤ c4) (hr5 : Kd.C (Kd.int .i64) w A5 l5.length l5) (hc5 : l5.length ≤ c5) (hr6 : Kd.C k59 w A6 l6.length l6) (hc6 : l6.length ≤ c6)
    (hl4 : l4.length ≤ 1000000000) (hl5 : l5.length ≤ 1000000000) (hl6 : l6.length ≤ 1000000000) :
    Calls Tryz.prog 24 #[.agg #[.int .i64 a0, .int .i64 a1, .int .i64 a2, .int .i64 a3, .slice A4 l4.length c4, .slice A5 l5.length c5, .slice A6 l6.length c6]] w fun e w' =>
      e = .returned (.bool b) ∧ Below w.heap.size w w' := by
  obtain ⟨b', he, hb'⟩ := right_ev a0 a1 a2 a3 l4 l5 l6 hl4 hl5 hl6
  obtain rfl := bool_one hb hb'
  obtain ⟨k, hk⟩ := he.rounds
  exact recur_Right.calls k a0 a1 a2 a3 A4 c4 l4 A5 c5 l5 A6 c6 l6 _ w hr4 hc4 hr5 hc5 hr6 hc6 hk
end Go.Proofs.YtfbmjonhohebiaaGreatDoor
end
section
set_option linter.unusedVariables false
set_option linter.unusedSimpArgs false
namespace Go.Proofs.YtfbmjonhohebiaaGreatDoor
open Go.RowKit Go.Proofs.YtfbmjonhohebiaaGreatDoorW.PrintWords Go.Proofs.YtfbmjonhohebiaaGreatDoorW.PrintLast Go.Proofs.YtfbmjonhohebiaaGreatDoorW.PrintMore PRecurExpands
noncomputable def MatchB (b : Bool) (a0 a1 : Int) (l4 l5 : List Int) (l6 : List S59) (first day : Int) : Bool := b && (isDayS first && (isDayS day && matchV a0 a1 l4 l5 l6 first day))
def MatchE (b : Bool) (first day : Int) : Int := if b = true then (if isDayS first = true ∧ isDayS day = true then 0 else 110) else 3
theorem ret2_bi {k' : IntKind} {a b : Bool} {a' b' : Int} (h : a = b) (h' : a' = b') : Ending.returned (.tuple #[.bool a, .int k' a']) = .returned (.tuple #[.bool b, .int k' b']) := by rw [h, h']
theorem isDayS_iff (n : Int) : isDayS n = true ↔ 0 ≤ n ∧ n ≤ 2932896 := by unfold isDayS; simp
set_option maxRecDepth 100000 in
set_option maxHeartbeats 4000000 in
theorem recur_Match (a0 a1 a2 a3 : Int) (A4 A5 A6 : Option Addr) (c4 c5 c6 : Nat) (l4 l5 : List Int) (l6 : List S59) (b : Bool) (hb : b = true ↔ RightP a0 a1 a2 a3 l4 l5 l6) (first day : Int) (w : World)
    (hr4 : Kd.C (Kd.int .i64) w A4 l4.length l4) (hc4 : l4.length ≤ c4) (hr5 : Kd.C (Kd.int .i64) w A5 l5.length l5) (hc5 : l5.length ≤ c5) (hr6 : Kd.C k59 w A6 l6.length l6) (hc6 : l6.length ≤ c6)
    (hl4 : l4.length ≤ 1000000000) (hl5 : l5.length ≤ 1000000000) (hl6 : l6.length ≤ 1000000000) :
    Calls Tryz.prog 12 #[.agg #[.int .i64 a0, .int .i64 a1, .int .i64 a2, .int .i64 a3, .slice A4 l4.length c4, .slice A5 l5.length c5, .slice A6 l6.length c6], .int .i64 first, .int .i64 day] w fun e w' =>
      e = .returned (.tuple #[.bool (MatchB b a0 a1 l4 l5 l6 first day), .int .i64 (MatchE b first day)]) ∧ Below w.heap.size w w' := by
  have HR4 := Aside0.mk hr4
  have HR5 := Aside0.mk hr5
  have HR6 := Aside0.mk hr6
  have HBB := Aside0.mk hb
  clear hr4 hr5 hr6 hb
  have HB := Aside0.mk ((Below.refl w.heap.size w).alloc (Nat.le_refl _) (.cells #[.int .i64 a0, .int .i64 a1, .int .i64 a2, .int .i64 a3, .slice A4 l4.length c4, .slice A5 l5.length c5, .slice A6 l6.length c6] 25))
  have hz : w.heap.size < (w.alloc (.cells #[.int .i64 a0, .int .i64 a1, .int .i64 a2, .int .i64 a3, .slice A4 l4.length c4, .slice A5 l5.length c5, .slice A6 l6.length c6] 25)).heap.size := by simp
  by_cases h1 : b = true
  · by_cases h2 : isDayS first = true
    · by_cases h3 : isDayS day = true
      · have hf1 : MatchB b a0 a1 l4 l5 l6 first day = matchV a0 a1 l4 l5 l6 first day := by unfold MatchB; rw [h1, h2, h3]; rfl
        have hf2 : MatchE b first day = 0 := by unfold MatchE; rw [if_pos h1, if_pos ⟨h2, h3⟩]
        have F1 := Lib.hid hf1
        have F2 := Lib.hid hf2
        have R := Aside0.mk (HBB.out.mp h1)
        obtain ⟨d1, d2⟩ := (isDayS_iff first).mp h2
        obtain ⟨d3, d4⟩ := (isDayS_iff day).mp h3
        clear hf1 hf2
        go_enter Tryz.func12, Tryz.ntmps12
        go_wp2_with (first
          | (go_at_call 24; ((with_reducible refine (recur_Right_c a0 a1 a2 a3 A4 A5 A6 c4 c5 c6 l4 l5 l6 b HBB.out _ (Kd.C_below HR4.out HB.out) hc4 (Kd.C_below HR5.out HB.out) hc5 (Kd.C_below HR6.out HB.out) hc6 hl4 hl5 hl6).mono ?_); rintro e w2 ⟨rfl, hb2⟩; obtain ⟨hc2, hf2⟩ := bcell hb2; have hz : w.heap.size < w2.heap.size := Nat.lt_of_lt_of_le hz hb2.size; have HB' := Aside0.mk (HB.out.trans (hb2.mono HB.out.size)); clear HB hb2; have HB := HB'; clear HB'))
          | (go_at_call 26; ((with_reducible refine (recur_isDay_c _ _).mono ?_); rintro e w2 ⟨rfl, hb2⟩; obtain ⟨hc2, hf2⟩ := bcell hb2; have hz : w.heap.size < w2.heap.size := Nat.lt_of_lt_of_le hz hb2.size; have HB' := Aside0.mk (HB.out.trans (hb2.mono HB.out.size)); clear HB hb2; have HB := HB'; clear HB'))
          | (go_at_call 27; ((with_reducible refine (recur_match a0 a1 a2 a3 A4 A5 A6 c4 c5 c6 l4 l5 l6 first day _ (Kd.C_below HR4.out HB.out) hc4 (Kd.C_below HR5.out HB.out) hc5 (Kd.C_below HR6.out HB.out) hc6 hl4 hl5 hl6 R.out.f0 R.out.f1 R.out.i0 R.out.i1 d1 d2 d3 d4).mono ?_); rintro e w2 ⟨rfl, hb2⟩; obtain ⟨hc2, hf2⟩ := bcell hb2; have hz : w.heap.size < w2.heap.size := Nat.lt_of_lt_of_le hz hb2.size; have HB' := Aside0.mk (HB.out.trans (hb2.mono HB.out.size)); clear HB hb2; have HB := HB'; clear HB')))
        go_ret2
        exact ⟨ret2_bi F1.out.symm F2.out.symm, HB.out⟩
      · have h3' : isDayS day = false := by simpa using h3
        have hf1 : MatchB b a0 a1 l4 l5 l6 first day = false := by unfold MatchB; rw [h1, h2, h3']; rfl
        have hf2 : MatchE b first day = 110 := by unfold MatchE; rw [if_pos h1, if_neg (fun h => h3 h.2)]
        have F1 := Lib.hid hf1
        have F2 := Lib.hid hf2
        clear hf1 hf2 h3
        go_enter Tryz.func12, Tryz.ntmps12
        go_wp2_with (first
          | (go_at_call 24; ((with_reducible refine (recur_Right_c a0 a1 a2 a3 A4 A5 A6 c4 c5 c6 l4 l5 l6 b HBB.out _ (Kd.C_below HR4.out HB.out) hc4 (Kd.C_below HR5.out HB.out) hc5 (Kd.C_below HR6.out HB.out) hc6 hl4 hl5 hl6).mono ?_); rintro e w2 ⟨rfl, hb2⟩; obtain ⟨hc2, hf2⟩ := bcell hb2; have hz : w.heap.size < w2.heap.size := Nat.lt_of_lt_of_le hz hb2.size; have HB' := Aside0.mk (HB.out.trans (hb2.mono HB.out.size)); clear HB hb2; have HB := HB'; clear HB'))
          | (go_at_call 26; ((with_reducible refine (recur_isDay_c _ _).mono ?_); rintro e w2 ⟨rfl, hb2⟩; obtain ⟨hc2, hf2⟩ := bcell hb2; have hz : w.heap.size < w2.heap.size := Nat.lt_of_lt_of_le hz hb2.size; have HB' := Aside0.mk (HB.out.trans (hb2.mono HB.out.size)); clear HB hb2; have HB := HB'; clear HB'))
          | (go_at_call 27; ((with_reducible refine (recur_match a0 a1 a2 a3 A4 A5 A6 c4 c5 c6 l4 l5 l6 first day _ (Kd.C_below HR4.out HB.out) hc4 (Kd.C_below HR5.out HB.out) hc5 (Kd.C_below HR6.out HB.out) hc6 hl4 hl5 hl6 R.out.f0 R.out.f1 R.out.i0 R.out.i1 d1 d2 d3 d4).mono ?_); rintro e w2 ⟨rfl, hb2⟩; obtain ⟨hc2, hf2⟩ := bcell hb2; have hz : w.heap.size < w2.heap.size := Nat.lt_of_lt_of_le hz hb2.size; have HB' := Aside0.mk (HB.out.trans (hb2.mono HB.out.size)); clear HB hb2; have HB := HB'; clear HB')))
        go_ret2
        exact ⟨ret2_bi F1.out.symm F2.out.symm, HB.out⟩
    · have h2' : isDayS first = false := by simpa using h2
      have hf1 : MatchB b a0 a1 l4 l5 l6 first day = false := by unfold MatchB; rw [h1, h2']; rfl
      have hf2 : MatchE b first day = 110 := by unfold MatchE; rw [if_pos h1, if_neg (fun h => h2 h.1)]
      have F1 := Lib.hid hf1
      have F2 := Lib.hid hf2
      clear hf1 hf2 h2
      go_enter Tryz.func12, Tryz.ntmps12
      go_wp2_with (first
          | (go_at_call 24; ((with_reducible refine (recur_Right_c a0 a1 a2 a3 A4 A5 A6 c4 c5 c6 l4 l5 l6 b HBB.out _ (Kd.C_below HR4.out HB.out) hc4 (Kd.C_below HR5.out HB.out) hc5 (Kd.C_below HR6.out HB.out) hc6 hl4 hl5 hl6).mono ?_); rintro e w2 ⟨rfl, hb2⟩; obtain ⟨hc2, hf2⟩ := bcell hb2; have hz : w.heap.size < w2.heap.size := Nat.lt_of_lt_of_le hz hb2.size; have HB' := Aside0.mk (HB.out.trans (hb2.mono HB.out.size)); clear HB hb2; have HB := HB'; clear HB'))
          | (go_at_call 26; ((with_reducible refine (recur_isDay_c _ _).mono ?_); rintro e w2 ⟨rfl, hb2⟩; obtain ⟨hc2, hf2⟩ := bcell hb2; have hz : w.heap.size < w2.heap.size := Nat.lt_of_lt_of_le hz hb2.size; have HB' := Aside0.mk (HB.out.trans (hb2.mono HB.out.size)); clear HB hb2; have HB := HB'; clear HB'))
          | (go_at_call 27; ((with_reducible refine (recur_match a0 a1 a2 a3 A4 A5 A6 c4 c5 c6 l4 l5 l6 first day _ (Kd.C_below HR4.out HB.out) hc4 (Kd.C_below HR5.out HB.out) hc5 (Kd.C_below HR6.out HB.out) hc6 hl4 hl5 hl6 R.out.f0 R.out.f1 R.out.i0 R.out.i1 d1 d2 d3 d4).mono ?_); rintro e w2 ⟨rfl, hb2⟩; obtain ⟨hc2, hf2⟩ := bcell hb2; have hz : w.heap.size < w2.heap.size := Nat.lt_of_lt_of_le hz hb2.size; have HB' := Aside0.mk (HB.out.trans (hb2.mono HB.out.size)); clear HB hb2; have HB := HB'; clear HB')))
      go_ret2
      exact ⟨ret2_bi F1.out.symm F2.out.symm, HB.out⟩
  · have h1' : b = false := by simpa using h1
    have hf1 : MatchB b a0 a1 l4 l5 l6 first day = false := by unfold MatchB; rw [h1']; rfl
    have hf2 : MatchE b first day = 3 := by unfold MatchE; rw [if_neg h1]
    have F1 := Lib.hid hf1
    have F2 := Lib.hid hf2
    clear hf1 hf2 h1
    go_enter Tryz.func12, Tryz.ntmps12
    go_wp2_with (first
          | (go_at_call 24; ((with_reducible refine (recur_Right_c a0 a1 a2 a3 A4 A5 A6 c4 c5 c6 l4 l5 l6 b HBB.out _ (Kd.C_below HR4.out HB.out) hc4 (Kd.C_below HR5.out HB.out) hc5 (Kd.C_below HR6.out HB.out) hc6 hl4 hl5 hl6).mono ?_); rintro e w2 ⟨rfl, hb2⟩; obtain ⟨hc2, hf2⟩ := bcell hb2; have hz : w.heap.size < w2.heap.size := Nat.lt_of_lt_of_le hz hb2.size; have HB' := Aside0.mk (HB.out.trans (hb2.mono HB.out.size)); clear HB hb2; have HB := HB'; clear HB'))
          | (go_at_call 26; ((with_reducible refine (recur_isDay_c _ _).mono ?_); rintro e w2 ⟨rfl, hb2⟩; obtain ⟨hc2, hf2⟩ := bcell hb2; have hz : w.heap.size < w2.heap.size := Nat.lt_of_lt_of_le hz hb2.size; have HB' := Aside0.mk (HB.out.trans (hb2.mono HB.out.size)); clear HB hb2; have HB := HB'; clear HB'))
          | (go_at_call 27; ((with_reducible refine (recur_match a0 a1 a2 a3 A4 A5 A6 c4 c5 c6 l4 l5 l6 first day _ (Kd.C_below HR4.out HB.out) hc4 (Kd.C_below HR5.out HB.out) hc5 (Kd.C_below HR6.out HB.out) hc6 hl4 hl5 hl6 R.out.f0 R.out.f1 R.out.i0 R.out.i1 d1 d2 d3 d4).mono ?_); rintro e w2 ⟨rfl, hb2⟩; obtain ⟨hc2, hf2⟩ := bcell hb2; have hz : w.heap.size < w2.heap.size := Nat.lt_of_lt_of_le hz hb2.size; have HB' := Aside0.mk (HB.out.trans (hb2.mono HB.out.size)); clear HB hb2; have HB := HB'; clear HB')))
    go_ret2
    exact ⟨ret2_bi F1.out.symm F2.out.symm, HB.out⟩
end Go.Proofs.YtfbmjonhohebiaaGreatDoor
end
section
set_option linter.unusedVariables false
set_option linter.unusedSimpArgs false
namespace Go.Proofs.YtfbmjonhohebiaaGreatDoor
open Go.RowKit Go.Proofs.YtfbmjonhohebiaaGreatDoorW.PrintWords Go.Proofs.YtfbmjonhohebiaaGreatDoorW.PrintLast Go.Proofs.YtfbmjonhohebiaaGreatDoorW.PrintMore PRecurExpands
def timeS (t : Int) : Bool := decide (0 ≤ t) && decide (t ≤ 253402300799)
theorem timeS_iff (t : Int) : timeS t = true ↔ timeP t := by unfold timeS timeP; simp
theorem when_Right_c (t : Int) (w : World) : Calls Tryz.prog 29 #[.int .i64 t] w fun e w' => e = .returned (.bool (timeS t)) ∧ Below w.heap.size w w' := by
  have hk : when_Right.f t = some (timeS t) := by
    unfold when_Right.f timeS
    by_cases h : t ≥ 0
    · rw [if_pos h]; simp [h]
    · rw [if_neg h]; simp; omega
  exact (when_Right.calls t _ w hk).mono fun e w' h => ⟨h.1, h.2.below⟩
end Go.Proofs.YtfbmjonhohebiaaGreatDoor
end
section
namespace Go.Proofs.YtfbmjonhohebiaaGreatDoor.PRecurExpands
open Go.RowKit Go.Proofs.YtfbmjonhohebiaaGreatDoorW.PrintWords Go.Proofs.YtfbmjonhohebiaaGreatDoorW.PrintLast Go.Proofs.YtfbmjonhohebiaaGreatDoorW.PrintMore
attribute [local go_sem] max2_int min2_int max_two min_two max_three min_three max_four min_four
set_option linter.unusedVariables false
set_option linter.unusedSimpArgs false
def posthornlaw21_As.T5 : Bool × List (List Nat × List Nat) := (true, [([], []), ([0], [0]), ([], []), ([2], [2]), ([], []), ([3, 4], [3, 4]), ([5], [5]), ([6], [6]), ([], []), ([8], [8]), ([], []), ([9, 10], [9, 10]), ([11], [11]), ([12], [12]), ([7, 13], [7, 13]), ([14], [14]), ([1, 15], [1, 15]), ([0, 1, 2, 3, 4, 5, 6, 7, 8, 9, 10, 11, 12, 13, 14, 15, 16], []), ([17, 16, 16, 0, 1, 2, 3, 4, 5, 6, 7, 8, 9, 10, 11, 12, 13, 14, 15, 16], [16, 17])])
def posthornlaw21_As.B5 : List Nat := [0, 1, 0, 4, 0, 28, 60, 124, 0, 256, 0, 1792, 3840, 7936, 16380, 32764, 65535, 131071, 262143]
theorem posthornlaw21_As.tab5 : rtab .any (opsOf Tryz.f14 5) = posthornlaw21_As.T5 := by kernel_rfl
theorem posthornlaw21_As.bits5 : waitsOk posthornlaw21_As.T5.2 posthornlaw21_As.B5 = true := by kernel_rfl
def posthornref12_Time.f (a0 : Int) : Option (Bool) := if a0 ≥ 0 then (some (decide (a0 < 253402300800))) else (some false)
set_option maxHeartbeats 8000000 in
set_option maxRecDepth 100000 in
theorem posthornref12_Time.calls (a0 : Int) (r : Bool) (w : World) (h : posthornref12_Time.f a0 = some r) :
    Calls Tryz.prog 31 #[.int .i64 a0] w fun e w' => e = .returned (.bool r) ∧ Drawn0 w w' := by
  have H : (if a0 ≥ 0 then (some (decide (a0 < 253402300800))) else (some false)) = some r := h
  clear h
  by_cases c2 : a0 ≥ 0
  · rw [if_pos c2] at H
    have c2b0 : decide (0 ≤ a0) = true := decide_eq_true c2
    clear c2
    obtain rfl := Option.some.inj H
    go_enter Tryz.func31, Tryz.ntmps31
    go_wp2
    go_ret
    exact ⟨by first | rfl | (simp; done) | (simp [*]; done), by repeat (first | exact Drawn0.refl _ | apply Drawn0.step)⟩
  · rw [if_neg c2] at H
    have c2b0 : decide (0 ≤ a0) = false := decide_eq_false c2
    clear c2
    obtain rfl := Option.some.inj H
    go_enter Tryz.func31, Tryz.ntmps31
    go_wp2
    go_ret
    exact ⟨by first | rfl | (simp; done) | (simp [*]; done), by repeat (first | exact Drawn0.refl _ | apply Drawn0.step)⟩
end Go.Proofs.YtfbmjonhohebiaaGreatDoor.PRecurExpands
end
section
namespace Go.Proofs.YtfbmjonhohebiaaGreatDoor.PRecurExpands
open Go.RowKit Go.Proofs.YtfbmjonhohebiaaGreatDoorW.PrintWords Go.Proofs.YtfbmjonhohebiaaGreatDoorW.PrintLast Go.Proofs.YtfbmjonhohebiaaGreatDoorW.PrintMore
attribute [local go_sem] max2_int min2_int max_two min_two max_three min_three max_four min_four
set_option linter.unusedVariables false
set_option linter.unusedSimpArgs false
mutual
def posthornref21_list.l0 : Nat → List Int → Int → Int → Int → Option (Bool)
  | 0, _, _, _, _ => none
  | k + 1, x0, x1, x2, x7 => if x7 < (x0.length : Int) then (if 0 ≤ x7 then (if (rd x0 x7) = 0 then (posthornref21_list.j1 k x0 x1 x2 x7 true) else (if (rd x0 x7) < x1 then (posthornref21_list.j1 k x0 x1 x2 x7 true) else (posthornref21_list.j1 k x0 x1 x2 x7 (decide ((rd x0 x7) > x2))))) else (none)) else (some true)
def posthornref21_list.j1 : Nat → List Int → Int → Int → Int → Bool → Option (Bool)
  | 0, _, _, _, _, _ => none
  | k + 1, x0, x1, x2, x7, x34 => if x34 = true then (some false) else (if x7 > 0 then (if 0 ≤ x7 then (if x7 < (x0.length : Int) then (if 0 ≤ (wrap64 (x7 - 1)) then (if (wrap64 (x7 - 1)) < (x0.length : Int) then (if (rd x0 x7) ≤ (rd x0 (wrap64 (x7 - 1))) then (some false) else (posthornref21_list.l0 k x0 x1 x2 (wrap64 (x7 + 1)))) else (none)) else (none)) else (none)) else (none)) else (posthornref21_list.l0 k x0 x1 x2 (wrap64 (x7 + 1))))
end
def posthornref21_list.f (k : Nat) (l0 : List Int) (a1 : Int) (a2 : Int) : Option (Bool) := posthornref21_list.l0 k l0 a1 a2 0
theorem posthornref21_list.mono_l : ∀ k, (∀ y0 y1 y2 y3, LeO (posthornref21_list.l0 k y0 y1 y2 y3) (posthornref21_list.l0 (k + 1) y0 y1 y2 y3)) ∧ (∀ y0 y1 y2 y3 y4, LeO (posthornref21_list.j1 k y0 y1 y2 y3 y4) (posthornref21_list.j1 (k + 1) y0 y1 y2 y3 y4))
  | 0 => ⟨fun _ _ _ _ r h => by simp [posthornref21_list.l0] at h, fun _ _ _ _ _ r h => by simp [posthornref21_list.j1] at h⟩
  | k + 1 => by
    obtain ⟨ih0, ih1⟩ := posthornref21_list.mono_l k
    refine ⟨?_, ?_⟩
    · intro y0 y1 y2 y3
      unfold posthornref21_list.l0
      repeat' first
      | (with_reducible exact ih0 _ _ _ _)
      | (with_reducible exact ih1 _ _ _ _ _)
      | (with_reducible exact LeO.refl _)
      | (with_reducible exact LeO.none _)
      | (with_reducible refine LeO.ite ?_ ?_)
      | (with_reducible refine LeO.bind ?_ (fun _ => ?_))
      | exact ih0 _ _ _ _
      | exact ih1 _ _ _ _ _
      | exact LeO.none _
      | refine LeO.ite ?_ ?_
      | refine LeO.bind ?_ (fun _ => ?_)
    · intro y0 y1 y2 y3 y4
      unfold posthornref21_list.j1
      repeat' first
      | (with_reducible exact ih0 _ _ _ _)
      | (with_reducible exact ih1 _ _ _ _ _)
      | (with_reducible exact LeO.refl _)
      | (with_reducible exact LeO.none _)
      | (with_reducible refine LeO.ite ?_ ?_)
      | (with_reducible refine LeO.bind ?_ (fun _ => ?_))
      | exact ih0 _ _ _ _
      | exact ih1 _ _ _ _ _
      | exact LeO.none _
      | refine LeO.ite ?_ ?_
      | refine LeO.bind ?_ (fun _ => ?_)
theorem posthornref21_list.mono : ∀ a0 a1 a2 k, LeO (posthornref21_list.f k a0 a1 a2) (posthornref21_list.f (k + 1) a0 a1 a2) := by
  intro a0 a1 a2 k
  obtain ⟨ih0, ih1⟩ := posthornref21_list.mono_l k
  unfold posthornref21_list.f
  repeat' first
      | (with_reducible exact ih0 _ _ _ _)
      | (with_reducible exact ih1 _ _ _ _ _)
      | (with_reducible exact LeO.refl _)
      | (with_reducible exact LeO.none _)
      | (with_reducible refine LeO.ite ?_ ?_)
      | (with_reducible refine LeO.bind ?_ (fun _ => ?_))
      | exact ih0 _ _ _ _
      | exact ih1 _ _ _ _ _
      | exact LeO.none _
      | refine LeO.ite ?_ ?_
      | refine LeO.bind ?_ (fun _ => ?_)
set_option maxHeartbeats 8000000 in
set_option maxRecDepth 100000 in
theorem posthornref21_list.calls (k : Nat) (A0 : Option Addr) (c0 : Nat) (l0 : List Int) (a1 : Int) (a2 : Int) (r : Bool) (w : World) (hr0 : Kd.C (Kd.int .i64) w A0 l0.length l0) (hc0 : l0.length ≤ c0) (h : posthornref21_list.f k l0 a1 a2 = some r) :
    Calls Tryz.prog 53 #[.slice A0 l0.length c0, .int .i64 a1, .int .i64 a2] w fun e w' => e = .returned (.bool r) ∧ Drawn0 w w' := by
  have HR0 := Aside0.mk hr0
  have HC0 := Aside0.mk hc0
  clear hr0 hc0
  have H : (posthornref21_list.l0 k l0 a1 a2 0) = some r := h
  clear h
  have H' := Aside0.mk H
  clear H
  go_enter Tryz.func53, Tryz.ntmps53
  go_wp2
  repeat (go_quiet (fail); try go_wp2)
  go_loopg [7] k (fun kq v7 w' => ∃ (x7_1 : Int), v7 = .int .i64 x7_1 ∧ Aside0 (posthornref21_list.l0 kq l0 a1 a2 x7_1 = some r) ∧ Aside0 (kq ≤ k) ∧ Drawn0 w w')
  case atStart => exact ⟨(0), (by first | rfl | (simp; done) | (simp [*]; done)), H', ⟨Nat.le_refl _⟩, by repeat (first | exact Drawn0.refl _ | apply Drawn0.step)⟩
  case round =>
    clear H'
    try clear p2
    obtain ⟨x7_1, rfl, HA, HK1, ⟨m1, rfl⟩⟩ := hrel
    cases gk with
    | zero => exact absurd HA.out (by simp [posthornref21_list.l0])
    | succ k1 =>
      have H := HA.out
      clear HA
      simp only [posthornref21_list.l0] at H
      by_cases c4 : x7_1 < (l0.length : Int)
      · rw [if_pos c4] at H
        have c4b0 : decide (x7_1 < (l0.length : Int)) = true := decide_eq_true c4
        clear c4
        have HC5 := Aside0.mk H
        clear H
        go_upto_region 4 with (fail)
        repeat (go_quiet (fail); go_upto_region 4 with (fail))
        go_cut [34] (fun v34 wc => ∃ (kq : Nat) (x34_4 : Bool), v34 = .bool x34_4 ∧ Aside0 (posthornref21_list.j1 kq l0 a1 a2 x7_1 x34_4 = some r) ∧ Aside0 (kq ≤ k1) ∧ Drawn0 w wc)
        case first =>
          have H := HC5.out
          clear HC5
          by_cases c6 : 0 ≤ x7_1
          · rw [if_pos c6] at H
            have c6b0 : decide (0 ≤ x7_1) = true := decide_eq_true c6
            clear c6
            (first | rw [c6b0] | (simp only [i64_w, i32_w]; rw [c6b0]) | skip)
            by_cases c7 : (rd l0 x7_1) = 0
            · rw [if_pos c7] at H
              have c7b0 : ((rd l0 x7_1) == 0) = true := beq_iff_eq.mpr c7
              have c7b1 : ((rd l0 x7_1) != 0) = false := bne_eq_false_iff_eq.mpr c7
              clear c7
              have H' := Aside0.mk H
              clear H
              have p308 : 0 ≤ (x7_1 : Int) := of_decide_eq_true (by first | (with_reducible assumption) | assumption)
              have q308 : x7_1 < (l0.length : Int) := of_decide_eq_true (by first | (with_reducible assumption) | assumption)
              obtain ⟨ad308, e308, hx308_0⟩ := Kd.at_int HR0.out x7_1 p308 q308
              cases e308
              replace p308 := eq_true p308
              replace q308 := eq_true q308
              go_wp2
              repeat (go_quiet (fail); try go_wp2)
              go_meet
              case rel => exact ⟨_, (true), (by first | rfl | (simp; done) | (simp [*]; done)), H', ⟨by have := HK1.out; first | omega | exact Nat.le_refl _⟩, by repeat (first | exact Drawn0.refl _ | apply Drawn0.step)⟩
            · rw [if_neg c7] at H
              have c7b0 : ((rd l0 x7_1) == 0) = false := beq_eq_false_iff_ne.mpr c7
              have c7b1 : ((rd l0 x7_1) != 0) = true := bne_iff_ne.mpr c7
              by_cases c8 : (rd l0 x7_1) < a1
              · rw [if_pos c8] at H
                have c8b0 : decide ((rd l0 x7_1) < a1) = true := decide_eq_true c8
                clear c8
                have H' := Aside0.mk H
                clear H
                have p308 : 0 ≤ (x7_1 : Int) := of_decide_eq_true (by first | (with_reducible assumption) | assumption)
                have q308 : x7_1 < (l0.length : Int) := of_decide_eq_true (by first | (with_reducible assumption) | assumption)
                obtain ⟨ad308, e308, hx308_0⟩ := Kd.at_int HR0.out x7_1 p308 q308
                cases e308
                replace p308 := eq_true p308
                replace q308 := eq_true q308
                have p309 : 0 ≤ (x7_1 : Int) := of_decide_eq_true (by first | (with_reducible assumption) | assumption)
                have q309 : x7_1 < (l0.length : Int) := of_decide_eq_true (by first | (with_reducible assumption) | assumption)
                obtain ⟨ad309, e309, hx309_0⟩ := Kd.at_int HR0.out x7_1 p309 q309
                obtain rfl : ad308 = ad309 := (by injection e309)
                replace p309 := eq_true p309
                replace q309 := eq_true q309
                go_wp2
                repeat (go_quiet (fail); try go_wp2)
                go_meet
                case rel => exact ⟨_, (true), (by first | rfl | (simp; done) | (simp [*]; done)), H', ⟨by have := HK1.out; first | omega | exact Nat.le_refl _⟩, by repeat (first | exact Drawn0.refl _ | apply Drawn0.step)⟩
              · rw [if_neg c8] at H
                have c8b0 : decide ((rd l0 x7_1) < a1) = false := decide_eq_false c8
                clear c8
                have H' := Aside0.mk H
                clear H
                have p308 : 0 ≤ (x7_1 : Int) := of_decide_eq_true (by first | (with_reducible assumption) | assumption)
                have q308 : x7_1 < (l0.length : Int) := of_decide_eq_true (by first | (with_reducible assumption) | assumption)
                obtain ⟨ad308, e308, hx308_0⟩ := Kd.at_int HR0.out x7_1 p308 q308
                cases e308
                replace p308 := eq_true p308
                replace q308 := eq_true q308
                have p309 : 0 ≤ (x7_1 : Int) := of_decide_eq_true (by first | (with_reducible assumption) | assumption)
                have q309 : x7_1 < (l0.length : Int) := of_decide_eq_true (by first | (with_reducible assumption) | assumption)
                obtain ⟨ad309, e309, hx309_0⟩ := Kd.at_int HR0.out x7_1 p309 q309
                obtain rfl : ad308 = ad309 := (by injection e309)
                replace p309 := eq_true p309
                replace q309 := eq_true q309
                have p310 : 0 ≤ (x7_1 : Int) := of_decide_eq_true (by first | (with_reducible assumption) | assumption)
                have q310 : x7_1 < (l0.length : Int) := of_decide_eq_true (by first | (with_reducible assumption) | assumption)
                obtain ⟨ad310, e310, hx310_0⟩ := Kd.at_int HR0.out x7_1 p310 q310
                obtain rfl : ad308 = ad310 := (by injection e310)
                replace p310 := eq_true p310
                replace q310 := eq_true q310
                go_wp2
                repeat (go_quiet (fail); try go_wp2)
                go_meet
                case rel => exact ⟨_, (decide ((rd l0 x7_1) > a2)), (by first | rfl | (simp; done) | (simp [*]; done)), H', ⟨by have := HK1.out; first | omega | exact Nat.le_refl _⟩, by repeat (first | exact Drawn0.refl _ | apply Drawn0.step)⟩
          · rw [if_neg c6] at H
            exact absurd H (by simp)
        case rest =>
          clear HC5
          try clear p2
          try clear p3
          try clear q3
          try clear hx3
          try clear c4
          try clear c4b0
          try clear c5
          try clear c6
          try clear c6b0
          try clear c7
          try clear c7b0
          try clear c7b1
          try clear c8
          try clear c8b0
          try clear hx308_0
          try clear hx309_0
          try clear hx310_0
          try clear p2
          try clear p308
          try clear p309
          try clear p310
          try clear q308
          try clear q309
          try clear q310
          obtain ⟨kq, x34_4, rfl, HA, HJ4, ⟨mc4, rfl⟩⟩ := hcut
          cases kq with
          | zero => exact absurd HA.out (by simp [posthornref21_list.j1])
          | succ kj4 =>
            have H := HA.out
            clear HA
            simp only [posthornref21_list.j1] at H
            by_cases c9 : x34_4 = true
            · subst c9
              have H1 : (some false) = some r := by rw [if_pos rfl] at H; exact H
              clear H
              have H := H1
              clear H1
              obtain rfl := Option.some.inj H
              go_wp2
              repeat (go_quiet (fail); try go_wp2)
              go_ret
              exact ⟨by first | rfl | (simp; done) | (simp [*]; done), by repeat (first | exact Drawn0.refl _ | apply Drawn0.step)⟩
            · replace c9 := Bool.eq_false_iff.mpr c9
              subst c9
              have H1 : (if x7_1 > 0 then (if 0 ≤ x7_1 then (if x7_1 < (l0.length : Int) then (if 0 ≤ (wrap64 (x7_1 - 1)) then (if (wrap64 (x7_1 - 1)) < (l0.length : Int) then (if (rd l0 x7_1) ≤ (rd l0 (wrap64 (x7_1 - 1))) then (some false) else (posthornref21_list.l0 kj4 l0 a1 a2 (wrap64 (x7_1 + 1)))) else (none)) else (none)) else (none)) else (none)) else (posthornref21_list.l0 kj4 l0 a1 a2 (wrap64 (x7_1 + 1)))) = some r := by rw [if_neg (show ¬ (false = true) by decide)] at H; exact H
              clear H
              have H := H1
              clear H1
              by_cases c10 : x7_1 > 0
              · rw [if_pos c10] at H
                have c10b0 : decide (0 < x7_1) = true := decide_eq_true c10
                clear c10
                by_cases c11 : 0 ≤ x7_1
                · rw [if_pos c11] at H
                  have c11b0 : decide (0 ≤ x7_1) = true := decide_eq_true c11
                  clear c11
                  by_cases c12 : x7_1 < (l0.length : Int)
                  · rw [if_pos c12] at H
                    have c12b0 : decide (x7_1 < (l0.length : Int)) = true := decide_eq_true c12
                    clear c12
                    obtain ⟨ji13, hji13⟩ : ∃ j_ : Int, (wrap64 (x7_1 - 1)) = j_ := ⟨_, rfl⟩
                    replace H : (if 0 ≤ (ji13) then (if (ji13) < (l0.length : Int) then (if (rd l0 x7_1) ≤ (rd l0 (ji13)) then (some false) else (posthornref21_list.l0 kj4 l0 a1 a2 (wrap64 (x7_1 + 1)))) else (none)) else (none)) = some r := by first | (rw [hji13] at H; exact H) | (simp only [hji13] at H ⊢; exact H)
                    have hji13w : (IntKind.i64.wrap (x7_1 - 1)) = ji13 := (i64_w _).trans hji13
                    by_cases c14 : 0 ≤ (ji13)
                    · rw [if_pos c14] at H
                      have c14b0 : decide (0 ≤ (ji13)) = true := decide_eq_true c14
                      clear c14
                      by_cases c15 : (ji13) < (l0.length : Int)
                      · rw [if_pos c15] at H
                        have c15b0 : decide ((ji13) < (l0.length : Int)) = true := decide_eq_true c15
                        clear c15
                        by_cases c16 : (rd l0 x7_1) ≤ (rd l0 (ji13))
                        · rw [if_pos c16] at H
                          have c16b0 : decide ((rd l0 x7_1) ≤ (rd l0 (ji13))) = true := decide_eq_true c16
                          clear c16
                          obtain rfl := Option.some.inj H
                          have p311 : 0 ≤ (x7_1 : Int) := of_decide_eq_true (by first | (with_reducible assumption) | assumption)
                          have q311 : x7_1 < (l0.length : Int) := of_decide_eq_true (by first | (with_reducible assumption) | assumption)
                          obtain ⟨ad311, e311, hx311_0⟩ := Kd.at_int HR0.out x7_1 p311 q311
                          cases e311
                          replace p311 := eq_true p311
                          replace q311 := eq_true q311
                          have p312 : 0 ≤ ((ji13) : Int) := of_decide_eq_true (by first | (with_reducible assumption) | assumption)
                          have q312 : (ji13) < (l0.length : Int) := of_decide_eq_true (by first | (with_reducible assumption) | assumption)
                          obtain ⟨ad312, e312, hx312_0⟩ := Kd.at_int HR0.out (ji13) p312 q312
                          obtain rfl : ad311 = ad312 := (by injection e312)
                          replace p312 := eq_true p312
                          replace q312 := eq_true q312
                          go_wp2
                          repeat (go_quiet (fail); try go_wp2)
                          go_ret
                          exact ⟨by first | rfl | (simp; done) | (simp only [← hji13] <;> (first | rfl | simp)) | (simp [*]; done), by repeat (first | exact Drawn0.refl _ | apply Drawn0.step)⟩
                        · rw [if_neg c16] at H
                          have c16b0 : decide ((rd l0 x7_1) ≤ (rd l0 (ji13))) = false := decide_eq_false c16
                          clear c16
                          have H' := Aside0.mk H
                          clear H
                          have p311 : 0 ≤ (x7_1 : Int) := of_decide_eq_true (by first | (with_reducible assumption) | assumption)
                          have q311 : x7_1 < (l0.length : Int) := of_decide_eq_true (by first | (with_reducible assumption) | assumption)
                          obtain ⟨ad311, e311, hx311_0⟩ := Kd.at_int HR0.out x7_1 p311 q311
                          cases e311
                          replace p311 := eq_true p311
                          replace q311 := eq_true q311
                          have p312 : 0 ≤ ((ji13) : Int) := of_decide_eq_true (by first | (with_reducible assumption) | assumption)
                          have q312 : (ji13) < (l0.length : Int) := of_decide_eq_true (by first | (with_reducible assumption) | assumption)
                          obtain ⟨ad312, e312, hx312_0⟩ := Kd.at_int HR0.out (ji13) p312 q312
                          obtain rfl : ad311 = ad312 := (by injection e312)
                          replace p312 := eq_true p312
                          replace q312 := eq_true q312
                          go_wp2
                          repeat (go_quiet (fail); try go_wp2)
                          go_roundg kj4
                          case measure => have := HK1.out; have := HJ4.out; omega
                          case rel => exact ⟨(wrap64 (x7_1 + 1)), (by first | rfl | (simp; done) | (simp [*]; done)), H', ⟨by have := HK1.out; have := HJ4.out; omega⟩, by repeat (first | exact Drawn0.refl _ | apply Drawn0.step)⟩
                      · rw [if_neg c15] at H
                        exact absurd H (by simp)
                    · rw [if_neg c14] at H
                      exact absurd H (by simp)
                  · rw [if_neg c12] at H
                    exact absurd H (by simp)
                · rw [if_neg c11] at H
                  exact absurd H (by simp)
              · rw [if_neg c10] at H
                have c10b0 : decide (0 < x7_1) = false := decide_eq_false c10
                clear c10
                have H' := Aside0.mk H
                clear H
                go_wp2
                repeat (go_quiet (fail); try go_wp2)
                go_roundg kj4
                case measure => have := HK1.out; have := HJ4.out; omega
                case rel => exact ⟨(wrap64 (x7_1 + 1)), (by first | rfl | (simp; done) | (simp [*]; done)), H', ⟨by have := HK1.out; have := HJ4.out; omega⟩, by repeat (first | exact Drawn0.refl _ | apply Drawn0.step)⟩
      · rw [if_neg c4] at H
        have c4b0 : decide (x7_1 < (l0.length : Int)) = false := decide_eq_false c4
        clear c4
        obtain rfl := Option.some.inj H
        go_wp2
        repeat (go_quiet (fail); try go_wp2)
        go_ret
        exact ⟨by first | rfl | (simp; done) | (simp [*]; done), by repeat (first | exact Drawn0.refl _ | apply Drawn0.step)⟩
mutual
def posthornref21_week.l0 : Nat → List (S60) → Bool → Int → Option (Bool)
  | 0, _, _, _ => none
  | k + 1, x0, x1, x5 => if x5 < (x0.length : Int) then (if 0 ≤ x5 then (if ((rd_T60 x0 x5).f0) < 0 then (posthornref21_week.j1 k x0 x1 x5 true ((rd_T60 x0 x5).f0) ((rd_T60 x0 x5).f1)) else (if ((rd_T60 x0 x5).f0) > 6 then (posthornref21_week.j1 k x0 x1 x5 true ((rd_T60 x0 x5).f0) ((rd_T60 x0 x5).f1)) else (if ((rd_T60 x0 x5).f1) < (-5) then (posthornref21_week.j1 k x0 x1 x5 true ((rd_T60 x0 x5).f0) ((rd_T60 x0 x5).f1)) else (if ((rd_T60 x0 x5).f1) > 5 then (posthornref21_week.j1 k x0 x1 x5 true ((rd_T60 x0 x5).f0) ((rd_T60 x0 x5).f1)) else (if ((rd_T60 x0 x5).f1) = 0 then (posthornref21_week.j1 k x0 x1 x5 false ((rd_T60 x0 x5).f0) ((rd_T60 x0 x5).f1)) else (posthornref21_week.j1 k x0 x1 x5 (!x1) ((rd_T60 x0 x5).f0) ((rd_T60 x0 x5).f1))))))) else (none)) else (some true)
def posthornref21_week.j1 : Nat → List (S60) → Bool → Int → Bool → Int → Int → Option (Bool)
  | 0, _, _, _, _, _, _ => none
  | k + 1, x0, x1, x5, x43, x315000, x315001 => if x43 = true then (some false) else (if x5 > 0 then (if 0 ≤ (wrap64 (x5 - 1)) then (if (wrap64 (x5 - 1)) < (x0.length : Int) then (if ((rd_T60 x0 (wrap64 (x5 - 1))).f0) > x315000 then (some false) else (if ((rd_T60 x0 (wrap64 (x5 - 1))).f0) = x315000 then (if ((rd_T60 x0 (wrap64 (x5 - 1))).f1) ≥ x315001 then (some false) else (posthornref21_week.l0 k x0 x1 (wrap64 (x5 + 1)))) else (posthornref21_week.l0 k x0 x1 (wrap64 (x5 + 1))))) else (none)) else (none)) else (posthornref21_week.l0 k x0 x1 (wrap64 (x5 + 1))))
end
def posthornref21_week.f (k : Nat) (l0 : List (S60)) (a1 : Bool) : Option (Bool) := posthornref21_week.l0 k l0 a1 0
theorem posthornref21_week.mono_l : ∀ k, (∀ y0 y1 y2, LeO (posthornref21_week.l0 k y0 y1 y2) (posthornref21_week.l0 (k + 1) y0 y1 y2)) ∧ (∀ y0 y1 y2 y3 y4 y5, LeO (posthornref21_week.j1 k y0 y1 y2 y3 y4 y5) (posthornref21_week.j1 (k + 1) y0 y1 y2 y3 y4 y5))
  | 0 => ⟨fun _ _ _ r h => by simp [posthornref21_week.l0] at h, fun _ _ _ _ _ _ r h => by simp [posthornref21_week.j1] at h⟩
  | k + 1 => by
    obtain ⟨ih0, ih1⟩ := posthornref21_week.mono_l k
    refine ⟨?_, ?_⟩
    · intro y0 y1 y2
      unfold posthornref21_week.l0
      repeat' first
      | (with_reducible exact ih0 _ _ _)
      | (with_reducible exact ih1 _ _ _ _ _ _)
      | (with_reducible exact LeO.refl _)
      | (with_reducible exact LeO.none _)
      | (with_reducible refine LeO.ite ?_ ?_)
      | (with_reducible refine LeO.bind ?_ (fun _ => ?_))
      | exact ih0 _ _ _
      | exact ih1 _ _ _ _ _ _
      | exact LeO.none _
      | refine LeO.ite ?_ ?_
      | refine LeO.bind ?_ (fun _ => ?_)
    · intro y0 y1 y2 y3 y4 y5
      unfold posthornref21_week.j1
      repeat' first
      | (with_reducible exact ih0 _ _ _)
      | (with_reducible exact ih1 _ _ _ _ _ _)
      | (with_reducible exact LeO.refl _)
      | (with_reducible exact LeO.none _)
      | (with_reducible refine LeO.ite ?_ ?_)
      | (with_reducible refine LeO.bind ?_ (fun _ => ?_))
      | exact ih0 _ _ _
      | exact ih1 _ _ _ _ _ _
      | exact LeO.none _
      | refine LeO.ite ?_ ?_
      | refine LeO.bind ?_ (fun _ => ?_)
theorem posthornref21_week.mono : ∀ a0 a1 k, LeO (posthornref21_week.f k a0 a1) (posthornref21_week.f (k + 1) a0 a1) := by
  intro a0 a1 k
  obtain ⟨ih0, ih1⟩ := posthornref21_week.mono_l k
  unfold posthornref21_week.f
  repeat' first
      | (with_reducible exact ih0 _ _ _)
      | (with_reducible exact ih1 _ _ _ _ _ _)
      | (with_reducible exact LeO.refl _)
      | (with_reducible exact LeO.none _)
      | (with_reducible refine LeO.ite ?_ ?_)
      | (with_reducible refine LeO.bind ?_ (fun _ => ?_))
      | exact ih0 _ _ _
      | exact ih1 _ _ _ _ _ _
      | exact LeO.none _
      | refine LeO.ite ?_ ?_
      | refine LeO.bind ?_ (fun _ => ?_)
set_option maxHeartbeats 8000000 in
set_option maxRecDepth 100000 in
theorem posthornref21_week.calls (k : Nat) (A0 : Option Addr) (c0 : Nat) (l0 : List (S60)) (a1 : Bool) (r : Bool) (w : World) (hr0 : Kd.C k60 w A0 l0.length l0) (hc0 : l0.length ≤ c0) (h : posthornref21_week.f k l0 a1 = some r) :
    Calls Tryz.prog 54 #[.slice A0 l0.length c0, .bool a1] w fun e w' => e = .returned (.bool r) ∧ Below w.heap.size w w' := by
  have hu60 := Tryz.underlying60
  have HR0 := Aside0.mk hr0
  have HC0 := Aside0.mk hc0
  clear hr0 hc0
  have HB := Aside0.mk (Below.refl w.heap.size w)
  have H : (posthornref21_week.l0 k l0 a1 0) = some r := h
  clear h
  have H' := Aside0.mk H
  clear H
  go_enter Tryz.func54, Tryz.ntmps54
  go_wp2
  repeat (go_quiet (fail); try go_wp2)
  go_loopg [5] k (fun kq v5 w' => ∃ (x5_1 : Int), v5 = .int .i64 x5_1 ∧ Aside0 (posthornref21_week.l0 kq l0 a1 x5_1 = some r) ∧ Aside0 (kq ≤ k) ∧ Aside0 (Below w.heap.size w w'))
  case atStart => exact ⟨(0), (by first | rfl | (simp; done) | (simp [*]; done)), H', ⟨Nat.le_refl _⟩, ⟨by repeat (first | (with_reducible first | exact HB.out | apply below_alloc | apply pw_below_drewN | apply below_drew1) | exact HB.out)⟩⟩
  case round =>
    clear H'
    try clear p2
    obtain ⟨x5_1, rfl, HA, HK1, HB⟩ := hrel
    cases gk with
    | zero => exact absurd HA.out (by simp [posthornref21_week.l0])
    | succ k1 =>
      have H := HA.out
      clear HA
      simp only [posthornref21_week.l0] at H
      by_cases c3 : x5_1 < (l0.length : Int)
      · rw [if_pos c3] at H
        have c3b0 : decide (x5_1 < (l0.length : Int)) = true := decide_eq_true c3
        clear c3
        by_cases c4 : 0 ≤ x5_1
        · rw [if_pos c4] at H
          have c4b0 : decide (0 ≤ x5_1) = true := decide_eq_true c4
          clear c4
          have HC5 := Aside0.mk H
          clear H
          have p313 : 0 ≤ (x5_1 : Int) := of_decide_eq_true (by first | (with_reducible assumption) | assumption)
          have q313 : x5_1 < (l0.length : Int) := of_decide_eq_true (by first | (with_reducible assumption) | assumption)
          obtain ⟨ad313, e313, hx313_0, hx313_1⟩ := at_T60 HR0.out x5_1 p313 q313
          cases e313
          replace hx313_0 := (HB.out.cell (World.block_lt_of_cell? w _ hx313_0)).trans hx313_0
          replace hx313_1 := (HB.out.cell (World.block_lt_of_cell? w _ hx313_1)).trans hx313_1
          replace p313 := eq_true p313
          replace q313 := eq_true q313
          go_upto_region 5 with (first | ((with_reducible refine gate_dst (N := 6) rfl ?_); refine box_event ?hg (N := 6) ?hd (cs := #[.int .i64 0, .int .i64 0]) (t := 60) ?hr ?_; (case hd => rfl); (case hg => rfl); (case hr => first | (go_simp; done) | (go_simp; rfl)); intro gb314 hg w6 hbox hb; have n0_ := Aside0.mk (below_step (by repeat (first | (with_reducible first | exact HB.out | apply below_alloc | apply pw_below_drewN | apply below_drew1) | exact HB.out)) hb); have n1_ := Aside0.mk (hbox); have n2_ := Aside0.mk ((by rw [hg]; exact (below_size (by repeat (first | (with_reducible first | exact HB.out | apply below_alloc | apply pw_below_drewN | apply below_drew1) | exact HB.out))) : w.heap.size ≤ gb314)); have n3_ := Aside0.mk ((by rw [hg]; exact (below_size (by repeat (first | (with_reducible first | exact HB.out | apply below_alloc | apply pw_below_drewN | apply below_drew1) | exact HB.out))) : w.heap.size ≤ gb314)); clear HB; have HB := n0_; have BK314 := n1_; have GW314 := n2_; have GE314 := n3_; clear n0_ n1_ n2_ n3_; clear hb hbox hg; have hcz7_0 : w6.cell? ⟨gb314, 0, none⟩ = some (.int .i64 0) := (blk_cell BK314.out 0).trans rfl; have hcz7_1 : w6.cell? ⟨gb314, 1, none⟩ = some (.int .i64 0) := (blk_cell BK314.out 1).trans rfl; have hfz7_0 := blk_frozen BK314.out 0; have hfz7_1 := blk_frozen BK314.out 1))
          repeat (go_quiet (first | ((with_reducible refine gate_dst (N := 6) rfl ?_); refine box_event ?hg (N := 6) ?hd (cs := #[.int .i64 0, .int .i64 0]) (t := 60) ?hr ?_; (case hd => rfl); (case hg => rfl); (case hr => first | (go_simp; done) | (go_simp; rfl)); intro gb314 hg w6 hbox hb; have n0_ := Aside0.mk (below_step (by repeat (first | (with_reducible first | exact HB.out | apply below_alloc | apply pw_below_drewN | apply below_drew1) | exact HB.out)) hb); have n1_ := Aside0.mk (hbox); have n2_ := Aside0.mk ((by rw [hg]; exact (below_size (by repeat (first | (with_reducible first | exact HB.out | apply below_alloc | apply pw_below_drewN | apply below_drew1) | exact HB.out))) : w.heap.size ≤ gb314)); have n3_ := Aside0.mk ((by rw [hg]; exact (below_size (by repeat (first | (with_reducible first | exact HB.out | apply below_alloc | apply pw_below_drewN | apply below_drew1) | exact HB.out))) : w.heap.size ≤ gb314)); clear HB; have HB := n0_; have BK314 := n1_; have GW314 := n2_; have GE314 := n3_; clear n0_ n1_ n2_ n3_; clear hb hbox hg; have hcz7_0 : w6.cell? ⟨gb314, 0, none⟩ = some (.int .i64 0) := (blk_cell BK314.out 0).trans rfl; have hcz7_1 : w6.cell? ⟨gb314, 1, none⟩ = some (.int .i64 0) := (blk_cell BK314.out 1).trans rfl; have hfz7_0 := blk_frozen BK314.out 0; have hfz7_1 := blk_frozen BK314.out 1)); go_upto_region 5 with (first | ((with_reducible refine gate_dst (N := 6) rfl ?_); refine box_event ?hg (N := 6) ?hd (cs := #[.int .i64 0, .int .i64 0]) (t := 60) ?hr ?_; (case hd => rfl); (case hg => rfl); (case hr => first | (go_simp; done) | (go_simp; rfl)); intro gb314 hg w6 hbox hb; have n0_ := Aside0.mk (below_step (by repeat (first | (with_reducible first | exact HB.out | apply below_alloc | apply pw_below_drewN | apply below_drew1) | exact HB.out)) hb); have n1_ := Aside0.mk (hbox); have n2_ := Aside0.mk ((by rw [hg]; exact (below_size (by repeat (first | (with_reducible first | exact HB.out | apply below_alloc | apply pw_below_drewN | apply below_drew1) | exact HB.out))) : w.heap.size ≤ gb314)); have n3_ := Aside0.mk ((by rw [hg]; exact (below_size (by repeat (first | (with_reducible first | exact HB.out | apply below_alloc | apply pw_below_drewN | apply below_drew1) | exact HB.out))) : w.heap.size ≤ gb314)); clear HB; have HB := n0_; have BK314 := n1_; have GW314 := n2_; have GE314 := n3_; clear n0_ n1_ n2_ n3_; clear hb hbox hg; have hcz7_0 : w6.cell? ⟨gb314, 0, none⟩ = some (.int .i64 0) := (blk_cell BK314.out 0).trans rfl; have hcz7_1 : w6.cell? ⟨gb314, 1, none⟩ = some (.int .i64 0) := (blk_cell BK314.out 1).trans rfl; have hfz7_0 := blk_frozen BK314.out 0; have hfz7_1 := blk_frozen BK314.out 1)))
          (try simp only [Act.put, List.setIfInBounds_toArray, List.set_cons_zero, List.set_cons_succ])
          go_cut [43] (fun v43 wc => ∃ (kq : Nat) (x43_4 : Bool), v43 = .bool x43_4 ∧ Aside0 (posthornref21_week.j1 kq l0 a1 x5_1 x43_4 ((rd_T60 l0 x5_1).f0) ((rd_T60 l0 x5_1).f1) = some r) ∧ Aside0 (kq ≤ k1) ∧ Aside0 (wc.heap[gb314]? = some (.cells #[.int .i64 ((rd_T60 l0 x5_1).f0), .int .i64 ((rd_T60 l0 x5_1).f1)] 60 (0, 0))) ∧ Aside0 (Below w.heap.size w wc))
          case first =>
            have H := HC5.out
            clear HC5
            by_cases c8 : ((rd_T60 l0 x5_1).f0) < 0
            · rw [if_pos c8] at H
              have c8b0 : decide (((rd_T60 l0 x5_1).f0) < 0) = true := decide_eq_true c8
              clear c8
              (first | rw [c8b0] | (simp only [i64_w, i32_w]; rw [c8b0]) | skip)
              have H' := Aside0.mk H
              clear H
              have hcz9_0 : w6.cell? ⟨gb314, 0, none⟩ = some (.int .i64 0) := (blk_cell BK314.out 0).trans rfl
              have hcz9_1 : w6.cell? ⟨gb314, 1, none⟩ = some (.int .i64 0) := (blk_cell BK314.out 1).trans rfl
              have hfz9_0 := blk_frozen BK314.out 0
              have hfz9_1 := blk_frozen BK314.out 1
              go_wp2
              repeat (go_quiet (fail); try go_wp2)
              go_meet
              case rel => exact ⟨_, (true), (by first | rfl | (simp; done) | (simp [*]; done)), H', ⟨by have := HK1.out; first | omega | exact Nat.le_refl _⟩, ⟨by (with_reducible repeat (first | refine blk_drewN ?_ _ | refine blk_drew ?_ | refine blk_alloc ?_ _)); refine blk_put (cs := #[.int .i64 ((rd_T60 l0 x5_1).f0), .int .i64 0]) ?_ 1 _ rfl; (with_reducible repeat (first | refine blk_drewN ?_ _ | refine blk_drew ?_ | refine blk_alloc ?_ _)); refine blk_put (cs := #[.int .i64 0, .int .i64 0]) ?_ 0 _ rfl; (with_reducible repeat (first | refine blk_drewN ?_ _ | refine blk_drew ?_ | refine blk_alloc ?_ _)); exact BK314.out⟩, ⟨by repeat (first | (with_reducible first | exact HB.out | apply below_alloc | apply pw_below_drewN | apply below_drew1 | refine below_set ?_ GE314.out) | exact HB.out)⟩⟩
            · rw [if_neg c8] at H
              have c8b0 : decide (((rd_T60 l0 x5_1).f0) < 0) = false := decide_eq_false c8
              clear c8
              (first | rw [c8b0] | (simp only [i64_w, i32_w]; rw [c8b0]) | skip)
              by_cases c10 : ((rd_T60 l0 x5_1).f0) > 6
              · rw [if_pos c10] at H
                have c10b0 : decide (6 < ((rd_T60 l0 x5_1).f0)) = true := decide_eq_true c10
                clear c10
                have H' := Aside0.mk H
                clear H
                have hcz11_0 : w6.cell? ⟨gb314, 0, none⟩ = some (.int .i64 0) := (blk_cell BK314.out 0).trans rfl
                have hcz11_1 : w6.cell? ⟨gb314, 1, none⟩ = some (.int .i64 0) := (blk_cell BK314.out 1).trans rfl
                have hfz11_0 := blk_frozen BK314.out 0
                have hfz11_1 := blk_frozen BK314.out 1
                go_wp2
                repeat (go_quiet (fail); try go_wp2)
                go_meet
                case rel => exact ⟨_, (true), (by first | rfl | (simp; done) | (simp [*]; done)), H', ⟨by have := HK1.out; first | omega | exact Nat.le_refl _⟩, ⟨by (with_reducible repeat (first | refine blk_drewN ?_ _ | refine blk_drew ?_ | refine blk_alloc ?_ _)); refine blk_put (cs := #[.int .i64 ((rd_T60 l0 x5_1).f0), .int .i64 0]) ?_ 1 _ rfl; (with_reducible repeat (first | refine blk_drewN ?_ _ | refine blk_drew ?_ | refine blk_alloc ?_ _)); refine blk_put (cs := #[.int .i64 0, .int .i64 0]) ?_ 0 _ rfl; (with_reducible repeat (first | refine blk_drewN ?_ _ | refine blk_drew ?_ | refine blk_alloc ?_ _)); exact BK314.out⟩, ⟨by repeat (first | (with_reducible first | exact HB.out | apply below_alloc | apply pw_below_drewN | apply below_drew1 | refine below_set ?_ GE314.out) | exact HB.out)⟩⟩
              · rw [if_neg c10] at H
                have c10b0 : decide (6 < ((rd_T60 l0 x5_1).f0)) = false := decide_eq_false c10
                clear c10
                by_cases c12 : ((rd_T60 l0 x5_1).f1) < (-5)
                · rw [if_pos c12] at H
                  have c12b0 : decide (((rd_T60 l0 x5_1).f1) < (-5)) = true := decide_eq_true c12
                  clear c12
                  have H' := Aside0.mk H
                  clear H
                  have hcz13_0 : w6.cell? ⟨gb314, 0, none⟩ = some (.int .i64 0) := (blk_cell BK314.out 0).trans rfl
                  have hcz13_1 : w6.cell? ⟨gb314, 1, none⟩ = some (.int .i64 0) := (blk_cell BK314.out 1).trans rfl
                  have hfz13_0 := blk_frozen BK314.out 0
                  have hfz13_1 := blk_frozen BK314.out 1
                  go_wp2
                  repeat (go_quiet (fail); try go_wp2)
                  go_meet
                  case rel => exact ⟨_, (true), (by first | rfl | (simp; done) | (simp [*]; done)), H', ⟨by have := HK1.out; first | omega | exact Nat.le_refl _⟩, ⟨by (with_reducible repeat (first | refine blk_drewN ?_ _ | refine blk_drew ?_ | refine blk_alloc ?_ _)); refine blk_put (cs := #[.int .i64 ((rd_T60 l0 x5_1).f0), .int .i64 0]) ?_ 1 _ rfl; (with_reducible repeat (first | refine blk_drewN ?_ _ | refine blk_drew ?_ | refine blk_alloc ?_ _)); refine blk_put (cs := #[.int .i64 0, .int .i64 0]) ?_ 0 _ rfl; (with_reducible repeat (first | refine blk_drewN ?_ _ | refine blk_drew ?_ | refine blk_alloc ?_ _)); exact BK314.out⟩, ⟨by repeat (first | (with_reducible first | exact HB.out | apply below_alloc | apply pw_below_drewN | apply below_drew1 | refine below_set ?_ GE314.out) | exact HB.out)⟩⟩
                · rw [if_neg c12] at H
                  have c12b0 : decide (((rd_T60 l0 x5_1).f1) < (-5)) = false := decide_eq_false c12
                  clear c12
                  by_cases c14 : ((rd_T60 l0 x5_1).f1) > 5
                  · rw [if_pos c14] at H
                    have c14b0 : decide (5 < ((rd_T60 l0 x5_1).f1)) = true := decide_eq_true c14
                    clear c14
                    have H' := Aside0.mk H
                    clear H
                    have hcz15_0 : w6.cell? ⟨gb314, 0, none⟩ = some (.int .i64 0) := (blk_cell BK314.out 0).trans rfl
                    have hcz15_1 : w6.cell? ⟨gb314, 1, none⟩ = some (.int .i64 0) := (blk_cell BK314.out 1).trans rfl
                    have hfz15_0 := blk_frozen BK314.out 0
                    have hfz15_1 := blk_frozen BK314.out 1
                    go_wp2
                    repeat (go_quiet (fail); try go_wp2)
                    go_meet
                    case rel => exact ⟨_, (true), (by first | rfl | (simp; done) | (simp [*]; done)), H', ⟨by have := HK1.out; first | omega | exact Nat.le_refl _⟩, ⟨by (with_reducible repeat (first | refine blk_drewN ?_ _ | refine blk_drew ?_ | refine blk_alloc ?_ _)); refine blk_put (cs := #[.int .i64 ((rd_T60 l0 x5_1).f0), .int .i64 0]) ?_ 1 _ rfl; (with_reducible repeat (first | refine blk_drewN ?_ _ | refine blk_drew ?_ | refine blk_alloc ?_ _)); refine blk_put (cs := #[.int .i64 0, .int .i64 0]) ?_ 0 _ rfl; (with_reducible repeat (first | refine blk_drewN ?_ _ | refine blk_drew ?_ | refine blk_alloc ?_ _)); exact BK314.out⟩, ⟨by repeat (first | (with_reducible first | exact HB.out | apply below_alloc | apply pw_below_drewN | apply below_drew1 | refine below_set ?_ GE314.out) | exact HB.out)⟩⟩
                  · rw [if_neg c14] at H
                    have c14b0 : decide (5 < ((rd_T60 l0 x5_1).f1)) = false := decide_eq_false c14
                    clear c14
                    by_cases c16 : ((rd_T60 l0 x5_1).f1) = 0
                    · rw [if_pos c16] at H
                      have c16b0 : (((rd_T60 l0 x5_1).f1) == 0) = true := beq_iff_eq.mpr c16
                      have c16b1 : (((rd_T60 l0 x5_1).f1) != 0) = false := bne_eq_false_iff_eq.mpr c16
                      clear c16
                      have H' := Aside0.mk H
                      clear H
                      have hcz17_0 : w6.cell? ⟨gb314, 0, none⟩ = some (.int .i64 0) := (blk_cell BK314.out 0).trans rfl
                      have hcz17_1 : w6.cell? ⟨gb314, 1, none⟩ = some (.int .i64 0) := (blk_cell BK314.out 1).trans rfl
                      have hfz17_0 := blk_frozen BK314.out 0
                      have hfz17_1 := blk_frozen BK314.out 1
                      go_wp2
                      repeat (go_quiet (fail); try go_wp2)
                      go_meet
                      case rel => exact ⟨_, (false), (by first | rfl | (simp; done) | (simp [*]; done)), H', ⟨by have := HK1.out; first | omega | exact Nat.le_refl _⟩, ⟨by (with_reducible repeat (first | refine blk_drewN ?_ _ | refine blk_drew ?_ | refine blk_alloc ?_ _)); refine blk_put (cs := #[.int .i64 ((rd_T60 l0 x5_1).f0), .int .i64 0]) ?_ 1 _ rfl; (with_reducible repeat (first | refine blk_drewN ?_ _ | refine blk_drew ?_ | refine blk_alloc ?_ _)); refine blk_put (cs := #[.int .i64 0, .int .i64 0]) ?_ 0 _ rfl; (with_reducible repeat (first | refine blk_drewN ?_ _ | refine blk_drew ?_ | refine blk_alloc ?_ _)); exact BK314.out⟩, ⟨by repeat (first | (with_reducible first | exact HB.out | apply below_alloc | apply pw_below_drewN | apply below_drew1 | refine below_set ?_ GE314.out) | exact HB.out)⟩⟩
                    · rw [if_neg c16] at H
                      have c16b0 : (((rd_T60 l0 x5_1).f1) == 0) = false := beq_eq_false_iff_ne.mpr c16
                      have c16b1 : (((rd_T60 l0 x5_1).f1) != 0) = true := bne_iff_ne.mpr c16
                      have H' := Aside0.mk H
                      clear H
                      have hcz18_0 : w6.cell? ⟨gb314, 0, none⟩ = some (.int .i64 0) := (blk_cell BK314.out 0).trans rfl
                      have hcz18_1 : w6.cell? ⟨gb314, 1, none⟩ = some (.int .i64 0) := (blk_cell BK314.out 1).trans rfl
                      have hfz18_0 := blk_frozen BK314.out 0
                      have hfz18_1 := blk_frozen BK314.out 1
                      go_wp2
                      repeat (go_quiet (fail); try go_wp2)
                      go_meet
                      case rel => exact ⟨_, (!a1), (by first | rfl | (simp; done) | (simp [*]; done)), H', ⟨by have := HK1.out; first | omega | exact Nat.le_refl _⟩, ⟨by (with_reducible repeat (first | refine blk_drewN ?_ _ | refine blk_drew ?_ | refine blk_alloc ?_ _)); refine blk_put (cs := #[.int .i64 ((rd_T60 l0 x5_1).f0), .int .i64 0]) ?_ 1 _ rfl; (with_reducible repeat (first | refine blk_drewN ?_ _ | refine blk_drew ?_ | refine blk_alloc ?_ _)); refine blk_put (cs := #[.int .i64 0, .int .i64 0]) ?_ 0 _ rfl; (with_reducible repeat (first | refine blk_drewN ?_ _ | refine blk_drew ?_ | refine blk_alloc ?_ _)); exact BK314.out⟩, ⟨by repeat (first | (with_reducible first | exact HB.out | apply below_alloc | apply pw_below_drewN | apply below_drew1 | refine below_set ?_ GE314.out) | exact HB.out)⟩⟩
          case rest =>
            clear HC5
            try clear c1
            try clear p2
            try clear c3
            try clear c3b0
            try clear p3
            try clear q3
            try clear hx3
            try clear c4
            try clear c4b0
            try clear c5
            try clear c8
            try clear c8b0
            try clear c10
            try clear c10b0
            try clear c12
            try clear c12b0
            try clear c14
            try clear c14b0
            try clear c16
            try clear c16b0
            try clear c16b1
            try clear hcz11_0
            try clear hcz11_1
            try clear hcz13_0
            try clear hcz13_1
            try clear hcz15_0
            try clear hcz15_1
            try clear hcz17_0
            try clear hcz17_1
            try clear hcz18_0
            try clear hcz18_1
            try clear hcz7_0
            try clear hcz7_1
            try clear hcz9_0
            try clear hcz9_1
            try clear hfz11_0
            try clear hfz11_1
            try clear hfz13_0
            try clear hfz13_1
            try clear hfz15_0
            try clear hfz15_1
            try clear hfz17_0
            try clear hfz17_1
            try clear hfz18_0
            try clear hfz18_1
            try clear hfz7_0
            try clear hfz7_1
            try clear hfz9_0
            try clear hfz9_1
            try clear hx313_0
            try clear hx313_1
            try clear p2
            try clear p313
            try clear q313
            obtain ⟨kq, x43_4, rfl, HA, HJ4, BK314, HB⟩ := hcut
            cases kq with
            | zero => exact absurd HA.out (by simp [posthornref21_week.j1])
            | succ kj4 =>
              have H := HA.out
              clear HA
              simp only [posthornref21_week.j1] at H
              by_cases c19 : x43_4 = true
              · subst c19
                have H1 : (some false) = some r := by rw [if_pos rfl] at H; exact H
                clear H
                have H := H1
                clear H1
                obtain rfl := Option.some.inj H
                go_wp2
                repeat (go_quiet (fail); try go_wp2)
                go_ret
                exact ⟨by first | rfl | (simp [errW_none, errW_some] <;> rfl) | (simp [*, errW_none, errW_some] <;> rfl), by repeat (first | (with_reducible first | exact HB.out | apply below_alloc | apply pw_below_drewN | apply below_drew1 | refine below_set ?_ GE314.out) | exact HB.out)⟩
              · replace c19 := Bool.eq_false_iff.mpr c19
                subst c19
                have H1 : (if x5_1 > 0 then (if 0 ≤ (wrap64 (x5_1 - 1)) then (if (wrap64 (x5_1 - 1)) < (l0.length : Int) then (if ((rd_T60 l0 (wrap64 (x5_1 - 1))).f0) > ((rd_T60 l0 x5_1).f0) then (some false) else (if ((rd_T60 l0 (wrap64 (x5_1 - 1))).f0) = ((rd_T60 l0 x5_1).f0) then (if ((rd_T60 l0 (wrap64 (x5_1 - 1))).f1) ≥ ((rd_T60 l0 x5_1).f1) then (some false) else (posthornref21_week.l0 kj4 l0 a1 (wrap64 (x5_1 + 1)))) else (posthornref21_week.l0 kj4 l0 a1 (wrap64 (x5_1 + 1))))) else (none)) else (none)) else (posthornref21_week.l0 kj4 l0 a1 (wrap64 (x5_1 + 1)))) = some r := by rw [if_neg (show ¬ (false = true) by decide)] at H; exact H
                clear H
                have H := H1
                clear H1
                by_cases c20 : x5_1 > 0
                · rw [if_pos c20] at H
                  have c20b0 : decide (0 < x5_1) = true := decide_eq_true c20
                  clear c20
                  obtain ⟨ji21, hji21⟩ : ∃ j_ : Int, (wrap64 (x5_1 - 1)) = j_ := ⟨_, rfl⟩
                  replace H : (if 0 ≤ (ji21) then (if (ji21) < (l0.length : Int) then (if ((rd_T60 l0 (ji21)).f0) > ((rd_T60 l0 x5_1).f0) then (some false) else (if ((rd_T60 l0 (ji21)).f0) = ((rd_T60 l0 x5_1).f0) then (if ((rd_T60 l0 (ji21)).f1) ≥ ((rd_T60 l0 x5_1).f1) then (some false) else (posthornref21_week.l0 kj4 l0 a1 (wrap64 (x5_1 + 1)))) else (posthornref21_week.l0 kj4 l0 a1 (wrap64 (x5_1 + 1))))) else (none)) else (none)) = some r := by first | (rw [hji21] at H; exact H) | (simp only [hji21] at H ⊢; exact H)
                  have hji21w : (IntKind.i64.wrap (x5_1 - 1)) = ji21 := (i64_w _).trans hji21
                  by_cases c22 : 0 ≤ (ji21)
                  · rw [if_pos c22] at H
                    have c22b0 : decide (0 ≤ (ji21)) = true := decide_eq_true c22
                    clear c22
                    by_cases c23 : (ji21) < (l0.length : Int)
                    · rw [if_pos c23] at H
                      have c23b0 : decide ((ji21) < (l0.length : Int)) = true := decide_eq_true c23
                      clear c23
                      by_cases c24 : ((rd_T60 l0 (ji21)).f0) > ((rd_T60 l0 x5_1).f0)
                      · rw [if_pos c24] at H
                        have c24b0 : decide (((rd_T60 l0 x5_1).f0) < ((rd_T60 l0 (ji21)).f0)) = true := decide_eq_true c24
                        clear c24
                        obtain rfl := Option.some.inj H
                        have p315 : 0 ≤ ((ji21) : Int) := of_decide_eq_true (by first | (with_reducible assumption) | assumption)
                        have q315 : (ji21) < (l0.length : Int) := of_decide_eq_true (by first | (with_reducible assumption) | assumption)
                        obtain ⟨ad315, e315, hx315_0, hx315_1⟩ := at_T60 HR0.out (ji21) p315 q315
                        obtain rfl : ad313 = ad315 := (by injection e315)
                        replace hx315_0 := (HB.out.cell (World.block_lt_of_cell? w _ hx315_0)).trans hx315_0
                        replace hx315_1 := (HB.out.cell (World.block_lt_of_cell? w _ hx315_1)).trans hx315_1
                        replace p315 := eq_true p315
                        replace q315 := eq_true q315
                        have hcz25_0 : wc.cell? ⟨gb314, 0, none⟩ = some (.int .i64 ((rd_T60 l0 x5_1).f0)) := (blk_cell BK314.out 0).trans rfl
                        have hcz25_1 : wc.cell? ⟨gb314, 1, none⟩ = some (.int .i64 ((rd_T60 l0 x5_1).f1)) := (blk_cell BK314.out 1).trans rfl
                        have hfz25_0 := blk_frozen BK314.out 0
                        have hfz25_1 := blk_frozen BK314.out 1
                        go_wp2
                        repeat (go_quiet (fail); try go_wp2)
                        go_ret
                        exact ⟨by first | rfl | (simp [errW_none, errW_some] <;> rfl) | (simp only [← hji21]; first | rfl | (simp [errW_none, errW_some] <;> rfl)) | (simp [*, errW_none, errW_some] <;> rfl), by repeat (first | (with_reducible first | exact HB.out | apply below_alloc | apply pw_below_drewN | apply below_drew1 | refine below_set ?_ GE314.out) | exact HB.out)⟩
                      · rw [if_neg c24] at H
                        have c24b0 : decide (((rd_T60 l0 x5_1).f0) < ((rd_T60 l0 (ji21)).f0)) = false := decide_eq_false c24
                        clear c24
                        by_cases c26 : ((rd_T60 l0 (ji21)).f0) = ((rd_T60 l0 x5_1).f0)
                        · rw [if_pos c26] at H
                          have c26b0 : (((rd_T60 l0 (ji21)).f0) == ((rd_T60 l0 x5_1).f0)) = true := beq_iff_eq.mpr c26
                          have c26b1 : (((rd_T60 l0 (ji21)).f0) != ((rd_T60 l0 x5_1).f0)) = false := bne_eq_false_iff_eq.mpr c26
                          clear c26
                          by_cases c27 : ((rd_T60 l0 (ji21)).f1) ≥ ((rd_T60 l0 x5_1).f1)
                          · rw [if_pos c27] at H
                            have c27b0 : decide (((rd_T60 l0 x5_1).f1) ≤ ((rd_T60 l0 (ji21)).f1)) = true := decide_eq_true c27
                            clear c27
                            obtain rfl := Option.some.inj H
                            have p315 : 0 ≤ ((ji21) : Int) := of_decide_eq_true (by first | (with_reducible assumption) | assumption)
                            have q315 : (ji21) < (l0.length : Int) := of_decide_eq_true (by first | (with_reducible assumption) | assumption)
                            obtain ⟨ad315, e315, hx315_0, hx315_1⟩ := at_T60 HR0.out (ji21) p315 q315
                            obtain rfl : ad313 = ad315 := (by injection e315)
                            replace hx315_0 := (HB.out.cell (World.block_lt_of_cell? w _ hx315_0)).trans hx315_0
                            replace hx315_1 := (HB.out.cell (World.block_lt_of_cell? w _ hx315_1)).trans hx315_1
                            replace p315 := eq_true p315
                            replace q315 := eq_true q315
                            have hcz28_0 : wc.cell? ⟨gb314, 0, none⟩ = some (.int .i64 ((rd_T60 l0 x5_1).f0)) := (blk_cell BK314.out 0).trans rfl
                            have hcz28_1 : wc.cell? ⟨gb314, 1, none⟩ = some (.int .i64 ((rd_T60 l0 x5_1).f1)) := (blk_cell BK314.out 1).trans rfl
                            have hfz28_0 := blk_frozen BK314.out 0
                            have hfz28_1 := blk_frozen BK314.out 1
                            have p316 : 0 ≤ ((ji21) : Int) := of_decide_eq_true (by first | (with_reducible assumption) | assumption)
                            have q316 : (ji21) < (l0.length : Int) := of_decide_eq_true (by first | (with_reducible assumption) | assumption)
                            obtain ⟨ad316, e316, hx316_0, hx316_1⟩ := at_T60 HR0.out (ji21) p316 q316
                            obtain rfl : ad313 = ad316 := (by injection e316)
                            replace hx316_0 := (HB.out.cell (World.block_lt_of_cell? w _ hx316_0)).trans hx316_0
                            replace hx316_1 := (HB.out.cell (World.block_lt_of_cell? w _ hx316_1)).trans hx316_1
                            replace p316 := eq_true p316
                            replace q316 := eq_true q316
                            have p317 : 0 ≤ ((ji21) : Int) := of_decide_eq_true (by first | (with_reducible assumption) | assumption)
                            have q317 : (ji21) < (l0.length : Int) := of_decide_eq_true (by first | (with_reducible assumption) | assumption)
                            obtain ⟨ad317, e317, hx317_0, hx317_1⟩ := at_T60 HR0.out (ji21) p317 q317
                            obtain rfl : ad313 = ad317 := (by injection e317)
                            replace hx317_0 := (HB.out.cell (World.block_lt_of_cell? w _ hx317_0)).trans hx317_0
                            replace hx317_1 := (HB.out.cell (World.block_lt_of_cell? w _ hx317_1)).trans hx317_1
                            replace p317 := eq_true p317
                            replace q317 := eq_true q317
                            go_wp2
                            repeat (go_quiet (fail); try go_wp2)
                            go_ret
                            exact ⟨by first | rfl | (simp [errW_none, errW_some] <;> rfl) | (simp only [← hji21]; first | rfl | (simp [errW_none, errW_some] <;> rfl)) | (simp [*, errW_none, errW_some] <;> rfl), by repeat (first | (with_reducible first | exact HB.out | apply below_alloc | apply pw_below_drewN | apply below_drew1 | refine below_set ?_ GE314.out) | exact HB.out)⟩
                          · rw [if_neg c27] at H
                            have c27b0 : decide (((rd_T60 l0 x5_1).f1) ≤ ((rd_T60 l0 (ji21)).f1)) = false := decide_eq_false c27
                            clear c27
                            have H' := Aside0.mk H
                            clear H
                            have p315 : 0 ≤ ((ji21) : Int) := of_decide_eq_true (by first | (with_reducible assumption) | assumption)
                            have q315 : (ji21) < (l0.length : Int) := of_decide_eq_true (by first | (with_reducible assumption) | assumption)
                            obtain ⟨ad315, e315, hx315_0, hx315_1⟩ := at_T60 HR0.out (ji21) p315 q315
                            obtain rfl : ad313 = ad315 := (by injection e315)
                            replace hx315_0 := (HB.out.cell (World.block_lt_of_cell? w _ hx315_0)).trans hx315_0
                            replace hx315_1 := (HB.out.cell (World.block_lt_of_cell? w _ hx315_1)).trans hx315_1
                            replace p315 := eq_true p315
                            replace q315 := eq_true q315
                            have hcz29_0 : wc.cell? ⟨gb314, 0, none⟩ = some (.int .i64 ((rd_T60 l0 x5_1).f0)) := (blk_cell BK314.out 0).trans rfl
                            have hcz29_1 : wc.cell? ⟨gb314, 1, none⟩ = some (.int .i64 ((rd_T60 l0 x5_1).f1)) := (blk_cell BK314.out 1).trans rfl
                            have hfz29_0 := blk_frozen BK314.out 0
                            have hfz29_1 := blk_frozen BK314.out 1
                            have p316 : 0 ≤ ((ji21) : Int) := of_decide_eq_true (by first | (with_reducible assumption) | assumption)
                            have q316 : (ji21) < (l0.length : Int) := of_decide_eq_true (by first | (with_reducible assumption) | assumption)
                            obtain ⟨ad316, e316, hx316_0, hx316_1⟩ := at_T60 HR0.out (ji21) p316 q316
                            obtain rfl : ad313 = ad316 := (by injection e316)
                            replace hx316_0 := (HB.out.cell (World.block_lt_of_cell? w _ hx316_0)).trans hx316_0
                            replace hx316_1 := (HB.out.cell (World.block_lt_of_cell? w _ hx316_1)).trans hx316_1
                            replace p316 := eq_true p316
                            replace q316 := eq_true q316
                            have p317 : 0 ≤ ((ji21) : Int) := of_decide_eq_true (by first | (with_reducible assumption) | assumption)
                            have q317 : (ji21) < (l0.length : Int) := of_decide_eq_true (by first | (with_reducible assumption) | assumption)
                            obtain ⟨ad317, e317, hx317_0, hx317_1⟩ := at_T60 HR0.out (ji21) p317 q317
                            obtain rfl : ad313 = ad317 := (by injection e317)
                            replace hx317_0 := (HB.out.cell (World.block_lt_of_cell? w _ hx317_0)).trans hx317_0
                            replace hx317_1 := (HB.out.cell (World.block_lt_of_cell? w _ hx317_1)).trans hx317_1
                            replace p317 := eq_true p317
                            replace q317 := eq_true q317
                            go_wp2
                            repeat (go_quiet (fail); try go_wp2)
                            go_roundg kj4
                            case measure => have := HK1.out; have := HJ4.out; omega
                            case rel => exact ⟨(wrap64 (x5_1 + 1)), (by first | rfl | (simp; done) | (simp [*]; done)), H', ⟨by have := HK1.out; have := HJ4.out; omega⟩, ⟨by repeat (first | (with_reducible first | exact HB.out | apply below_alloc | apply pw_below_drewN | apply below_drew1 | refine below_set ?_ GE314.out) | exact HB.out)⟩⟩
                        · rw [if_neg c26] at H
                          have c26b0 : (((rd_T60 l0 (ji21)).f0) == ((rd_T60 l0 x5_1).f0)) = false := beq_eq_false_iff_ne.mpr c26
                          have c26b1 : (((rd_T60 l0 (ji21)).f0) != ((rd_T60 l0 x5_1).f0)) = true := bne_iff_ne.mpr c26
                          have H' := Aside0.mk H
                          clear H
                          have p315 : 0 ≤ ((ji21) : Int) := of_decide_eq_true (by first | (with_reducible assumption) | assumption)
                          have q315 : (ji21) < (l0.length : Int) := of_decide_eq_true (by first | (with_reducible assumption) | assumption)
                          obtain ⟨ad315, e315, hx315_0, hx315_1⟩ := at_T60 HR0.out (ji21) p315 q315
                          obtain rfl : ad313 = ad315 := (by injection e315)
                          replace hx315_0 := (HB.out.cell (World.block_lt_of_cell? w _ hx315_0)).trans hx315_0
                          replace hx315_1 := (HB.out.cell (World.block_lt_of_cell? w _ hx315_1)).trans hx315_1
                          replace p315 := eq_true p315
                          replace q315 := eq_true q315
                          have hcz30_0 : wc.cell? ⟨gb314, 0, none⟩ = some (.int .i64 ((rd_T60 l0 x5_1).f0)) := (blk_cell BK314.out 0).trans rfl
                          have hcz30_1 : wc.cell? ⟨gb314, 1, none⟩ = some (.int .i64 ((rd_T60 l0 x5_1).f1)) := (blk_cell BK314.out 1).trans rfl
                          have hfz30_0 := blk_frozen BK314.out 0
                          have hfz30_1 := blk_frozen BK314.out 1
                          have p316 : 0 ≤ ((ji21) : Int) := of_decide_eq_true (by first | (with_reducible assumption) | assumption)
                          have q316 : (ji21) < (l0.length : Int) := of_decide_eq_true (by first | (with_reducible assumption) | assumption)
                          obtain ⟨ad316, e316, hx316_0, hx316_1⟩ := at_T60 HR0.out (ji21) p316 q316
                          obtain rfl : ad313 = ad316 := (by injection e316)
                          replace hx316_0 := (HB.out.cell (World.block_lt_of_cell? w _ hx316_0)).trans hx316_0
                          replace hx316_1 := (HB.out.cell (World.block_lt_of_cell? w _ hx316_1)).trans hx316_1
                          replace p316 := eq_true p316
                          replace q316 := eq_true q316
                          go_wp2
                          repeat (go_quiet (fail); try go_wp2)
                          go_roundg kj4
                          case measure => have := HK1.out; have := HJ4.out; omega
                          case rel => exact ⟨(wrap64 (x5_1 + 1)), (by first | rfl | (simp; done) | (simp [*]; done)), H', ⟨by have := HK1.out; have := HJ4.out; omega⟩, ⟨by repeat (first | (with_reducible first | exact HB.out | apply below_alloc | apply pw_below_drewN | apply below_drew1 | refine below_set ?_ GE314.out) | exact HB.out)⟩⟩
                    · rw [if_neg c23] at H
                      exact absurd H (by simp)
                  · rw [if_neg c22] at H
                    exact absurd H (by simp)
                · rw [if_neg c20] at H
                  have c20b0 : decide (0 < x5_1) = false := decide_eq_false c20
                  clear c20
                  have H' := Aside0.mk H
                  clear H
                  go_wp2
                  repeat (go_quiet (fail); try go_wp2)
                  go_roundg kj4
                  case measure => have := HK1.out; have := HJ4.out; omega
                  case rel => exact ⟨(wrap64 (x5_1 + 1)), (by first | rfl | (simp; done) | (simp [*]; done)), H', ⟨by have := HK1.out; have := HJ4.out; omega⟩, ⟨by repeat (first | (with_reducible first | exact HB.out | apply below_alloc | apply pw_below_drewN | apply below_drew1 | refine below_set ?_ GE314.out) | exact HB.out)⟩⟩
        · rw [if_neg c4] at H
          exact absurd H (by simp)
      · rw [if_neg c3] at H
        have c3b0 : decide (x5_1 < (l0.length : Int)) = false := decide_eq_false c3
        clear c3
        obtain rfl := Option.some.inj H
        go_wp2
        repeat (go_quiet (fail); try go_wp2)
        go_ret
        exact ⟨by first | rfl | (simp [errW_none, errW_some] <;> rfl) | (simp [*, errW_none, errW_some] <;> rfl), by repeat (first | (with_reducible first | exact HB.out | apply below_alloc | apply pw_below_drewN | apply below_drew1) | exact HB.out)⟩
end Go.Proofs.YtfbmjonhohebiaaGreatDoor.PRecurExpands
end
