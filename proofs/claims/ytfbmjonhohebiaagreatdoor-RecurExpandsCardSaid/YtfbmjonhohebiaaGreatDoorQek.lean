/- Texts merged: what the law needs, and no more. -/
import Derived.Test.YtfbmjonhohebiaaGreatDoorQej
section
set_option linter.unusedVariables false
set_option linter.unusedSimpArgs false
namespace Go.Proofs.YtfbmjonhohebiaaGreatDoor
open Go.RowKit Go.Proofs.YtfbmjonhohebiaaGreatDoorW.PrintWords Go.Proofs.YtfbmjonhohebiaaGreatDoorW.PrintLast Go.Proofs.YtfbmjonhohebiaaGreatDoorW.PrintMore PRecurExpands
def to60 (x : S59) : S60 := ⟨x.f0, x.f1⟩
theorem rd60_nat (l : List S59) (i : Nat) : rd_T60 (l.map to60) (i : Int) = to60 (l.getD i z59) := by
  unfold rd_T60
  simp only [Int.toNat_natCast, List.getD_eq_getElem?_getD, List.getElem?_map]
  cases l[i]? <;> rfl
theorem rd60_f0 (l : List S59) (i : Nat) : (rd_T60 (l.map to60) (i : Int)).f0 = (l.getD i z59).f0 := by rw [rd60_nat]; rfl
theorem rd60_f1 (l : List S59) (i : Nat) : (rd_T60 (l.map to60) (i : Int)).f1 = (l.getD i z59).f1 := by rw [rd60_nat]; rfl
theorem ref_list_ev (l : List Int) (lo up : Int) (hl : l.length ≤ 1000000000) : ∃ b, Ev (fun k => posthornref21_list.f k l lo up) b ∧ (b = true ↔ RisesP l lo up) := by
  unfold posthornref21_list.f RisesP
  refine ev_forall (g := fun i k => posthornref21_list.l0 k l lo up i) ?_ ?_ ?_
  · exact Ev.step (f := fun _ => some true) (fun k => by simp only [posthornref21_list.l0]; rw [if_neg (by omega)]) (Ev.now _)
  · rintro i hi _ ⟨h1, h2, h3, h4⟩ r hr
    refine Ev.step (f := fun k => posthornref21_list.j1 k l lo up (i : Int) false) (fun k => ?_) ?_
    · simp only [posthornref21_list.l0]
      rw [if_pos (by omega), if_pos (by omega), rd_nat, if_neg h3, if_neg (by omega), decide_eq_false (by omega)]
    · refine Ev.step (fun k => ?_) hr
      simp only [posthornref21_list.j1]
      rw [if_neg (by decide)]
      by_cases h0 : (i : Int) > 0
      · rw [if_pos h0, if_pos (by omega), if_pos (by omega), wrap64_in (x := (i : Int) - 1) (by omega) (by omega), if_pos (by omega), if_pos (by omega), show (i : Int) - 1 = ((i - 1 : Nat) : Int) by omega, rd_nat, rd_nat, if_neg (by have := h4 (by omega); omega), wrap64_in (by omega) (by omega)]
      · rw [if_neg h0, wrap64_in (by omega) (by omega)]
  · intro i hi _ hn
    have bad : Ev (fun k => posthornref21_list.j1 k l lo up (i : Int) true) false := Ev.step (f := fun _ => some false) (fun k => by simp only [posthornref21_list.j1]; rw [if_pos trivial]) (Ev.now _)
    refine Ev.succ ?_
    simp only [posthornref21_list.l0, rd_nat]
    refine Ev.pos (by omega) (Ev.pos (by omega) (Ev.ite (fun _ => bad) (fun q1 => Ev.ite (fun _ => bad) (fun q2 => ?_))))
    by_cases q3 : l.getD i 0 > up
    · rw [decide_eq_true q3]; exact bad
    · rw [decide_eq_false q3]
      have h4 : 0 < i ∧ ¬ l.getD (i - 1) 0 < l.getD i 0 := by
        unfold risesP at hn
        refine Classical.byContradiction fun hc => hn ⟨by omega, by omega, q1, fun h => Classical.byContradiction fun hc2 => hc ⟨h, hc2⟩⟩
      refine Ev.step (f := fun _ => some false) (fun k => ?_) (Ev.now _)
      simp only [posthornref21_list.j1]
      rw [if_neg (by decide), if_pos (by omega), if_pos (by omega), if_pos (by omega), wrap64_in (x := (i : Int) - 1) (by omega) (by omega), if_pos (by omega), if_pos (by omega), show (i : Int) - 1 = ((i - 1 : Nat) : Int) by omega, rd_nat, rd_nat, if_pos (by omega)]
theorem ref_week_ev (l : List S59) (fine : Bool) (hl : l.length ≤ 1000000000) : ∃ b, Ev (fun k => posthornref21_week.f k (l.map to60) fine) b ∧ (b = true ↔ WeekP l fine) := by
  unfold posthornref21_week.f WeekP
  refine ev_forall (g := fun i k => posthornref21_week.l0 k (l.map to60) fine i) ?_ ?_ ?_
  · exact Ev.step (f := fun _ => some true) (fun k => by simp only [posthornref21_week.l0]; rw [if_neg (by simp)]) (Ev.now _)
  · rintro i hi hbe ⟨h1, h2, h3, h4, h5, h6⟩ r hr
    have hlen : (i : Int) < ((l.map to60).length : Int) := by simp; omega
    refine Ev.step (f := fun k => posthornref21_week.j1 k (l.map to60) fine (i : Int) false (l.getD i z59).f0 (l.getD i z59).f1) (fun k => ?_) ?_
    · simp only [posthornref21_week.l0]
      rw [if_pos hlen, if_pos (by omega), rd60_f0, rd60_f1]
      rw [if_neg (by omega), if_neg (by omega), if_neg (by omega), if_neg (by omega)]
      by_cases e : (l.getD i z59).f1 = 0
      · rw [if_pos e]
      · rw [if_neg e]
        cases fine with
        | true => rfl
        | false => exact absurd (h5 rfl) e
    · refine Ev.step (fun k => ?_) hr
      simp only [posthornref21_week.j1]
      rw [if_neg (by decide)]
      by_cases h0 : (i : Int) > 0
      · rw [if_pos h0, wrap64_in (x := (i : Int) - 1) (by omega) (by omega), if_pos (by omega), if_pos (by simp; omega), show (i : Int) - 1 = ((i - 1 : Nat) : Int) by omega, rd60_f0, rd60_f1]
        have h6' := h6 (by omega)
        rw [if_neg (by omega), wrap64_in (x := (i : Int) + 1) (by omega) (by omega)]
        by_cases e : (l.getD (i - 1) z59).f0 = (l.getD i z59).f0
        · rw [if_pos e, if_neg (by omega)]
        · rw [if_neg e]
      · rw [if_neg h0, wrap64_in (by omega) (by omega)]
  · intro i hi hbe hn
    have hlen : (i : Int) < ((l.map to60).length : Int) := by simp; omega
    have bad : Ev (fun k => posthornref21_week.j1 k (l.map to60) fine (i : Int) true (l.getD i z59).f0 (l.getD i z59).f1) false := Ev.step (f := fun _ => some false) (fun k => by simp only [posthornref21_week.j1]; rw [if_pos trivial]) (Ev.now _)
    have mid : 0 ≤ (l.getD i z59).f0 → (l.getD i z59).f0 ≤ 6 → -5 ≤ (l.getD i z59).f1 → (l.getD i z59).f1 ≤ 5 → (fine = false → (l.getD i z59).f1 = 0) → Ev (fun k => posthornref21_week.j1 k (l.map to60) fine (i : Int) false (l.getD i z59).f0 (l.getD i z59).f1) false := by
      intro q1 q2 q3 q4 q5
      obtain ⟨h0, h6⟩ : 0 < i ∧ ¬ ((l.getD (i - 1) z59).f0 < (l.getD i z59).f0 ∨ ((l.getD (i - 1) z59).f0 = (l.getD i z59).f0 ∧ (l.getD (i - 1) z59).f1 < (l.getD i z59).f1)) := by
        unfold weekP at hn
        exact Classical.byContradiction fun hc => hn ⟨q1, q2, q3, q4, q5, fun h => Classical.byContradiction fun hc2 => hc ⟨h, hc2⟩⟩
      refine Ev.step (f := fun _ => some false) (fun k => ?_) (Ev.now _)
      simp only [posthornref21_week.j1]
      rw [if_neg (by decide), if_pos (by omega), wrap64_in (x := (i : Int) - 1) (by omega) (by omega), if_pos (by omega), if_pos (by simp; omega), show (i : Int) - 1 = ((i - 1 : Nat) : Int) by omega, rd60_f0, rd60_f1]
      by_cases e : (l.getD (i - 1) z59).f0 > (l.getD i z59).f0
      · rw [if_pos e]
      · rw [if_neg e, if_pos (by omega), if_pos (by omega)]
    refine Ev.succ ?_
    simp only [posthornref21_week.l0, rd60_f0, rd60_f1]
    refine Ev.pos hlen (Ev.pos (by omega) (Ev.ite (fun _ => bad) (fun q1 => Ev.ite (fun _ => bad) (fun q2 => Ev.ite (fun _ => bad) (fun q3 => Ev.ite (fun _ => bad) (fun q4 => Ev.ite (fun q5 => mid (by omega) (by omega) (by omega) (by omega) (fun _ => q5)) (fun q5 => ?_)))))))
    cases fine with
    | true => exact mid (by omega) (by omega) (by omega) (by omega) (fun h => by cases h)
    | false => exact bad
open Classical in
theorem ref_time (t : Int) : posthornref12_Time.f t = some (decide (timeP t)) := by
  have e : ∀ b : Bool, (b = true ↔ timeP t) → b = decide (timeP t) := fun b hb => by rw [Bool.eq_iff_iff, hb, decide_eq_true_eq]
  unfold posthornref12_Time.f
  by_cases h : t ≥ 0
  · rw [if_pos h, e (decide (t < 253402300800)) (by rw [decide_eq_true_eq]; unfold timeP; omega)]
  · rw [if_neg h, e false (by unfold timeP; simp; omega)]
theorem ref_right_ev (f i c u : Int) (l4 l5 : List Int) (l6 : List S59) (h4 : l4.length ≤ 1000000000) (h5 : l5.length ≤ 1000000000) (h6 : l6.length ≤ 1000000000) :
    ∃ b, Ev (fun k => posthornref21_Right.f k f i c u l4 l5 (l6.map to60)) b ∧ (b = true ↔ RightP f i c u l4 l5 l6) := by
  classical
  refine ⟨decide (RightP f i c u l4 l5 l6), ?_, by simp⟩
  obtain ⟨b4, e4, p4⟩ := ref_list_ev l4 1 12 h4
  obtain ⟨b5, e5, p5⟩ := ref_list_ev l5 (-31) 31 h5
  obtain ⟨bw, ew, pw⟩ := ref_week_ev l6 (decide (f ≥ 3)) h6
  have no : ∀ {P : Prop} [Decidable P], ¬ P → decide P = false := fun h => decide_eq_false h
  have len5 : ((l5.length : Int) > 0) ↔ l5 ≠ [] := by
    cases l5 with
    | nil => simp
    | cons a b => simp
  have J2 : ∀ x : Bool, (x = true → ¬ RightP f i c u l4 l5 l6) → (x = false → 1 ≤ f ∧ f ≤ 4 ∧ 1 ≤ i ∧ i ≤ 1000 ∧ 0 ≤ c ∧ c ≤ 10000 ∧ (u = -1 ∨ (timeP u ∧ c = 0)) ∧ (f ≤ 2 → l5 = [])) → Ev (fun k => posthornref21_Right.j2 k x f i c u l4 l5 (l6.map to60)) (decide (RightP f i c u l4 l5 l6)) := by
    intro x h1 h2
    refine Ev.succ ?_
    simp only [posthornref21_Right.j2]
    refine Ev.ite (fun h => by rw [no (h1 h)]; exact Ev.now _) (fun h => ?_)
    obtain ⟨q1, q2, q3, q4, q5, q6, q7, q8⟩ := h2 (by simpa using h)
    refine Ev.bind e4 (Ev.ite (fun r4 => ?_) (fun r4 => by rw [no (fun h => r4 (p4.mpr h.m))]; exact Ev.now _))
    refine Ev.bind e5 (Ev.ite (fun r5 => ?_) (fun r5 => by rw [no (fun h => r5 (p5.mpr h.d))]; exact Ev.now _))
    refine Ev.bind ew ?_
    have : decide (RightP f i c u l4 l5 l6) = bw := by
      rw [Bool.eq_iff_iff, pw, decide_eq_true_eq]
      exact ⟨fun h => h.w, fun h => ⟨q1, q2, q3, q4, q5, q6, q7, p4.mp r4, p5.mp r5, q8, h⟩⟩
    rw [this]
    exact Ev.now _
  have J1 : ∀ x : Bool, (x = true → ¬ RightP f i c u l4 l5 l6) → (x = false → 1 ≤ f ∧ f ≤ 4 ∧ 1 ≤ i ∧ i ≤ 1000 ∧ 0 ≤ c ∧ c ≤ 10000 ∧ (u = -1 ∨ (timeP u ∧ c = 0))) → Ev (fun k => posthornref21_Right.j1 k x f i c u l4 l5 (l6.map to60)) (decide (RightP f i c u l4 l5 l6)) := by
    intro x h1 h2
    refine Ev.succ ?_
    simp only [posthornref21_Right.j1]
    refine Ev.ite (fun h => by rw [no (h1 h)]; exact Ev.now _) (fun h => ?_)
    obtain ⟨q1, q2, q3, q4, q5, q6, q7⟩ := h2 (by simpa using h)
    refine Ev.ite (fun r => J2 _ (fun h hr => (len5.mp (of_decide_eq_true h)) (hr.dn r)) (fun h => ⟨q1, q2, q3, q4, q5, q6, q7, fun _ => ?_⟩)) (fun r => J2 _ (fun h => by cases h) (fun _ => ⟨q1, q2, q3, q4, q5, q6, q7, fun h => absurd h r⟩))
    exact Classical.byContradiction fun hc => (of_decide_eq_false h) (len5.mpr hc)
  have J0 : ∀ x : Bool, (x = true → ¬ RightP f i c u l4 l5 l6) → (x = false → 1 ≤ f ∧ f ≤ 4 ∧ 1 ≤ i ∧ i ≤ 1000 ∧ 0 ≤ c ∧ c ≤ 10000) → Ev (fun k => posthornref21_Right.j0 k x f i c u l4 l5 (l6.map to60)) (decide (RightP f i c u l4 l5 l6)) := by
    intro x h1 h2
    refine Ev.succ ?_
    simp only [posthornref21_Right.j0]
    refine Ev.ite (fun h => by rw [no (h1 h)]; exact Ev.now _) (fun h => ?_)
    obtain ⟨q1, q2, q3, q4, q5, q6⟩ := h2 (by simpa using h)
    refine Ev.ite (fun hu => J1 _ (fun h => by cases h) (fun _ => ⟨q1, q2, q3, q4, q5, q6, .inl hu⟩)) (fun hu => ?_)
    simp only [ref_time, Option.bind_some]
    refine Ev.ite (fun r => J1 _ (fun h hr => ?_) (fun h => ⟨q1, q2, q3, q4, q5, q6, .inr ⟨of_decide_eq_true r, ?_⟩⟩)) (fun r => J1 _ (fun _ hr => ?_) (fun h => by cases h))
    · have := of_decide_eq_true h
      rcases hr.u0 with h | h
      · exact hu h
      · omega
    · have := of_decide_eq_false h; omega
    · rcases hr.u0 with h | h
      · exact hu h
      · exact r (decide_eq_true h.1)
  unfold posthornref21_Right.f
  have bad : ¬ RightP f i c u l4 l5 l6 → Ev (fun k => posthornref21_Right.j0 k true f i c u l4 l5 (l6.map to60)) (decide (RightP f i c u l4 l5 l6)) := fun h => J0 _ (fun _ => h) (fun h => by cases h)
  refine Ev.ite (fun h => bad fun r => ?_) (fun s1 => Ev.ite (fun h => bad fun r => ?_) (fun s2 => Ev.ite (fun h => bad fun r => ?_) (fun s3 => Ev.ite (fun h => bad fun r => ?_) (fun s4 => Ev.ite (fun h => bad fun r => ?_) (fun s5 => J0 _ (fun h r => ?_) (fun h => ?_))))))
  · have := r.f0; omega
  · have := r.f1; omega
  · have := r.i0; omega
  · have := r.i1; omega
  · have := r.c0; omega
  · have := r.c1; have := of_decide_eq_true h; omega
  · have := of_decide_eq_false h; omega
end Go.Proofs.YtfbmjonhohebiaaGreatDoor
end
section
namespace Go.Proofs.YtfbmjonhohebiaaGreatDoor.PRecurExpands
open Go.RowKit Go.Proofs.YtfbmjonhohebiaaGreatDoorW.PrintWords Go.Proofs.YtfbmjonhohebiaaGreatDoorW.PrintLast Go.Proofs.YtfbmjonhohebiaaGreatDoorW.PrintMore
attribute [local go_sem] max2_int min2_int max_two min_two max_three min_three max_four min_four
set_option linter.unusedVariables false
set_option linter.unusedSimpArgs false
def posthornref12_Year.f (a0 : Int) : Option (Int) := if (Int.tmod a0 400) = 0 then (some 366) else (if (Int.tmod a0 4) = 0 then (if (Int.tmod a0 100) = 0 then (some 365) else (some 366)) else (some 365))
set_option maxHeartbeats 8000000 in
set_option maxRecDepth 100000 in
theorem posthornref12_Year.calls (a0 : Int) (r : Int) (w : World) (h : posthornref12_Year.f a0 = some r) :
    Calls Tryz.prog 89 #[.int .i64 a0] w fun e w' => e = .returned (.int .i64 r) ∧ Drawn0 w w' := by
  have H : (if (Int.tmod a0 400) = 0 then (some 366) else (if (Int.tmod a0 4) = 0 then (if (Int.tmod a0 100) = 0 then (some 365) else (some 366)) else (some 365))) = some r := h
  clear h
  by_cases c2 : (Int.tmod a0 400) = 0
  · rw [if_pos c2] at H
    have c2b0 : ((Int.tmod a0 400) == 0) = true := beq_iff_eq.mpr c2
    have c2b1 : ((Int.tmod a0 400) != 0) = false := bne_eq_false_iff_eq.mpr c2
    clear c2
    obtain rfl := Option.some.inj H
    go_enter Tryz.func89, Tryz.ntmps89
    go_wp2
    go_ret
    exact ⟨by first | rfl | (simp; done) | (simp [*]; done), by repeat (first | exact Drawn0.refl _ | apply Drawn0.step)⟩
  · rw [if_neg c2] at H
    have c2b0 : ((Int.tmod a0 400) == 0) = false := beq_eq_false_iff_ne.mpr c2
    have c2b1 : ((Int.tmod a0 400) != 0) = true := bne_iff_ne.mpr c2
    by_cases c3 : (Int.tmod a0 4) = 0
    · rw [if_pos c3] at H
      have c3b0 : ((Int.tmod a0 4) == 0) = true := beq_iff_eq.mpr c3
      have c3b1 : ((Int.tmod a0 4) != 0) = false := bne_eq_false_iff_eq.mpr c3
      clear c3
      by_cases c4 : (Int.tmod a0 100) = 0
      · rw [if_pos c4] at H
        have c4b0 : ((Int.tmod a0 100) == 0) = true := beq_iff_eq.mpr c4
        have c4b1 : ((Int.tmod a0 100) != 0) = false := bne_eq_false_iff_eq.mpr c4
        clear c4
        obtain rfl := Option.some.inj H
        go_enter Tryz.func89, Tryz.ntmps89
        go_wp2
        go_ret
        exact ⟨by first | rfl | (simp; done) | (simp [*]; done), by repeat (first | exact Drawn0.refl _ | apply Drawn0.step)⟩
      · rw [if_neg c4] at H
        have c4b0 : ((Int.tmod a0 100) == 0) = false := beq_eq_false_iff_ne.mpr c4
        have c4b1 : ((Int.tmod a0 100) != 0) = true := bne_iff_ne.mpr c4
        obtain rfl := Option.some.inj H
        go_enter Tryz.func89, Tryz.ntmps89
        go_wp2
        go_ret
        exact ⟨by first | rfl | (simp; done) | (simp [*]; done), by repeat (first | exact Drawn0.refl _ | apply Drawn0.step)⟩
    · rw [if_neg c3] at H
      have c3b0 : ((Int.tmod a0 4) == 0) = false := beq_eq_false_iff_ne.mpr c3
      have c3b1 : ((Int.tmod a0 4) != 0) = true := bne_iff_ne.mpr c3
      obtain rfl := Option.some.inj H
      go_enter Tryz.func89, Tryz.ntmps89
      go_wp2
      go_ret
      exact ⟨by first | rfl | (simp; done) | (simp [*]; done), by repeat (first | exact Drawn0.refl _ | apply Drawn0.step)⟩
def posthornref12_Month.j0 : Nat → Int → Int → Bool → Option (Int)
  | 0, _, _, _ => none
  | k + 1, x0, x5, x6 => if x6 = true then (some 30) else (if x5 = 2 then ((posthornref12_Year.f x0).bind fun t323 => (some (wrap64 (t323 - 337)))) else (some 31))
def posthornref12_Month.f (k : Nat) (a0 : Int) (a1 : Int) : Option (Int) := if a1 = 4 then (posthornref12_Month.j0 k a0 a1 (a1 == 4)) else (if a1 = 6 then (posthornref12_Month.j0 k a0 a1 (a1 == 6)) else (if a1 = 9 then (posthornref12_Month.j0 k a0 a1 (a1 == 9)) else (posthornref12_Month.j0 k a0 a1 (a1 == 11))))
theorem posthornref12_Month.mono_l : ∀ k, (∀ y0 y1 y2, LeO (posthornref12_Month.j0 k y0 y1 y2) (posthornref12_Month.j0 (k + 1) y0 y1 y2))
  | 0 => fun _ _ _ r h => by simp [posthornref12_Month.j0] at h
  | k + 1 => by
    have ih0 := posthornref12_Month.mono_l k
    · intro y0 y1 y2
      unfold posthornref12_Month.j0
      repeat' first
      | (with_reducible exact ih0 _ _ _)
      | (with_reducible exact LeO.refl _)
      | (with_reducible exact LeO.none _)
      | (with_reducible refine LeO.ite ?_ ?_)
      | (with_reducible refine LeO.bind ?_ (fun _ => ?_))
      | exact ih0 _ _ _
      | exact LeO.none _
      | refine LeO.ite ?_ ?_
      | refine LeO.bind ?_ (fun _ => ?_)
theorem posthornref12_Month.mono : ∀ a0 a1 k, LeO (posthornref12_Month.f k a0 a1) (posthornref12_Month.f (k + 1) a0 a1) := by
  intro a0 a1 k
  have ih0 := posthornref12_Month.mono_l k
  unfold posthornref12_Month.f
  repeat' first
      | (with_reducible exact ih0 _ _ _)
      | (with_reducible exact LeO.refl _)
      | (with_reducible exact LeO.none _)
      | (with_reducible refine LeO.ite ?_ ?_)
      | (with_reducible refine LeO.bind ?_ (fun _ => ?_))
      | exact ih0 _ _ _
      | exact LeO.none _
      | refine LeO.ite ?_ ?_
      | refine LeO.bind ?_ (fun _ => ?_)
set_option maxHeartbeats 8000000 in
set_option maxRecDepth 100000 in
theorem posthornref12_Month.calls (k : Nat) (a0 : Int) (a1 : Int) (r : Int) (w : World) (h : posthornref12_Month.f k a0 a1 = some r) :
    Calls Tryz.prog 90 #[.int .i64 a0, .int .i64 a1] w fun e w' => e = .returned (.int .i64 r) ∧ Drawn0 w w' := by
  have H : (if a1 = 4 then (posthornref12_Month.j0 k a0 a1 (a1 == 4)) else (if a1 = 6 then (posthornref12_Month.j0 k a0 a1 (a1 == 6)) else (if a1 = 9 then (posthornref12_Month.j0 k a0 a1 (a1 == 9)) else (posthornref12_Month.j0 k a0 a1 (a1 == 11))))) = some r := h
  clear h
  have HC3 := Aside0.mk H
  clear H
  go_enter Tryz.func90, Tryz.ntmps90
  go_upto_if 6 with (fail)
  go_cut [6] (fun v6 wc => ∃ (kq : Nat) (x6_2 : Bool), v6 = .bool x6_2 ∧ Aside0 (posthornref12_Month.j0 kq a0 a1 x6_2 = some r) ∧ Aside0 (kq ≤ k) ∧ Drawn0 w wc)
  case first =>
    have H := HC3.out
    clear HC3
    by_cases c4 : a1 = 4
    · rw [if_pos c4] at H
      have c4b0 : (a1 == 4) = true := beq_iff_eq.mpr c4
      have c4b1 : (a1 != 4) = false := bne_eq_false_iff_eq.mpr c4
      clear c4
      (first | rw [c4b0] | (simp only [i64_w, i32_w]; rw [c4b0]) | skip)
      have H' := Aside0.mk H
      clear H
      go_wp2
      go_meet
      case rel => exact ⟨_, ((a1 == 4)), (by first | rfl | (simp; done) | (simp [*]; done)), H', ⟨by first | omega | exact Nat.le_refl _⟩, by repeat (first | exact Drawn0.refl _ | apply Drawn0.step)⟩
    · rw [if_neg c4] at H
      have c4b0 : (a1 == 4) = false := beq_eq_false_iff_ne.mpr c4
      have c4b1 : (a1 != 4) = true := bne_iff_ne.mpr c4
      (first | rw [c4b0] | (simp only [i64_w, i32_w]; rw [c4b0]) | skip)
      by_cases c5 : a1 = 6
      · rw [if_pos c5] at H
        have c5b0 : (a1 == 6) = true := beq_iff_eq.mpr c5
        have c5b1 : (a1 != 6) = false := bne_eq_false_iff_eq.mpr c5
        clear c5
        have H' := Aside0.mk H
        clear H
        go_wp2
        go_meet
        case rel => exact ⟨_, ((a1 == 6)), (by first | rfl | (simp; done) | (simp [*]; done)), H', ⟨by first | omega | exact Nat.le_refl _⟩, by repeat (first | exact Drawn0.refl _ | apply Drawn0.step)⟩
      · rw [if_neg c5] at H
        have c5b0 : (a1 == 6) = false := beq_eq_false_iff_ne.mpr c5
        have c5b1 : (a1 != 6) = true := bne_iff_ne.mpr c5
        by_cases c6 : a1 = 9
        · rw [if_pos c6] at H
          have c6b0 : (a1 == 9) = true := beq_iff_eq.mpr c6
          have c6b1 : (a1 != 9) = false := bne_eq_false_iff_eq.mpr c6
          clear c6
          have H' := Aside0.mk H
          clear H
          go_wp2
          go_meet
          case rel => exact ⟨_, ((a1 == 9)), (by first | rfl | (simp; done) | (simp [*]; done)), H', ⟨by first | omega | exact Nat.le_refl _⟩, by repeat (first | exact Drawn0.refl _ | apply Drawn0.step)⟩
        · rw [if_neg c6] at H
          have c6b0 : (a1 == 9) = false := beq_eq_false_iff_ne.mpr c6
          have c6b1 : (a1 != 9) = true := bne_iff_ne.mpr c6
          have H' := Aside0.mk H
          clear H
          go_wp2
          go_meet
          case rel => exact ⟨_, ((a1 == 11)), (by first | rfl | (simp; done) | (simp [*]; done)), H', ⟨by first | omega | exact Nat.le_refl _⟩, by repeat (first | exact Drawn0.refl _ | apply Drawn0.step)⟩
  case rest =>
    clear HC3
    try clear p2
    try clear c4
    try clear c4b0
    try clear c4b1
    try clear c5
    try clear c5b0
    try clear c5b1
    try clear c6
    try clear c6b0
    try clear c6b1
    obtain ⟨kq, x6_2, rfl, HA, HJ2, ⟨mc2, rfl⟩⟩ := hcut
    cases kq with
    | zero => exact absurd HA.out (by simp [posthornref12_Month.j0])
    | succ kj2 =>
      have H := HA.out
      clear HA
      simp only [posthornref12_Month.j0] at H
      by_cases c7 : x6_2 = true
      · subst c7
        have H1 : (some 30) = some r := by rw [if_pos rfl] at H; exact H
        clear H
        have H := H1
        clear H1
        obtain rfl := Option.some.inj H
        go_wp2
        go_ret
        exact ⟨by first | rfl | (simp; done) | (simp [*]; done), by repeat (first | exact Drawn0.refl _ | apply Drawn0.step)⟩
      · replace c7 := Bool.eq_false_iff.mpr c7
        subst c7
        have H1 : (if a1 = 2 then ((posthornref12_Year.f a0).bind fun t323 => (some (wrap64 (t323 - 337)))) else (some 31)) = some r := by rw [if_neg (show ¬ (false = true) by decide)] at H; exact H
        clear H
        have H := H1
        clear H1
        by_cases c8 : a1 = 2
        · rw [if_pos c8] at H
          have c8b0 : (a1 == 2) = true := beq_iff_eq.mpr c8
          have c8b1 : (a1 != 2) = false := bne_eq_false_iff_eq.mpr c8
          clear c8
          replace H := Option.bind_eq_some_iff.mp H
          obtain ⟨t323, A90, H⟩ := H
          replace H : (some (wrap64 (t323 - 337))) = some r := H
          have A9 := Aside0.mk A90
          clear A90
          obtain rfl := Option.some.inj H
          go_wp2_with (first | ((with_reducible refine gate_callee (f := 89) rfl ?_); refine goesL_ (some 14) rfl rfl Tryz.func89 (by kernel_rfl) rfl #[.int .i64 a0] rfl (by (try simp only [List.map_toArray, List.map_cons, List.map_nil]); first | done | rfl | (simp only [List.length_drop, List.length_take]; rfl)) ?_; (with_reducible refine (posthornref12_Year.calls a0 t323 _ A9.out).mono ?_); rintro e w' ⟨rfl, ⟨nd, rfl⟩⟩; refine ⟨_, rfl, ?_⟩))
          go_ret
          exact ⟨by first | rfl | (simp; done) | (simp [*]; done), by repeat (first | exact Drawn0.refl _ | apply Drawn0.step)⟩
        · rw [if_neg c8] at H
          have c8b0 : (a1 == 2) = false := beq_eq_false_iff_ne.mpr c8
          have c8b1 : (a1 != 2) = true := bne_iff_ne.mpr c8
          obtain rfl := Option.some.inj H
          go_wp2
          go_ret
          exact ⟨by first | rfl | (simp; done) | (simp [*]; done), by repeat (first | exact Drawn0.refl _ | apply Drawn0.step)⟩
mutual
def posthornref12_Civil.j0 : Nat → Int → Bool → Option (Int × Int × Int × Int)
  | 0, _, _ => none
  | k + 1, x0, x14 => if x14 = true then (some (0, 0, 0, 110)) else (posthornref12_Civil.l0 k x0 1970 1)
def posthornref12_Civil.l0 : Nat → Int → Int → Int → Option (Int × Int × Int × Int)
  | 0, _, _, _ => none
  | k + 1, x6, x7, x8 => (posthornref12_Year.f x7).bind fun t324 => (if x6 ≥ t324 then ((posthornref12_Year.f x7).bind fun t325 => (posthornref12_Civil.l0 k (wrap64 (x6 - t325)) (wrap64 (x7 + 1)) x8)) else (posthornref12_Civil.l1 k x6 x7 x8))
def posthornref12_Civil.l1 : Nat → Int → Int → Int → Option (Int × Int × Int × Int)
  | 0, _, _, _ => none
  | k + 1, x6, x7, x8 => (posthornref12_Month.f k x7 x8).bind fun t326 => (if x6 ≥ t326 then ((posthornref12_Month.f k x7 x8).bind fun t327 => (posthornref12_Civil.l1 k (wrap64 (x6 - t327)) x7 (wrap64 (x8 + 1)))) else (some (x7, x8, wrap64 (x6 + 1), 0)))
end
def posthornref12_Civil.f (k : Nat) (a0 : Int) : Option (Int × Int × Int × Int) := if a0 < 0 then (posthornref12_Civil.j0 k a0 true) else (posthornref12_Civil.j0 k a0 (decide (a0 > 2932896)))
theorem posthornref12_Civil.mono_l : ∀ k, (∀ y0 y1, LeO (posthornref12_Civil.j0 k y0 y1) (posthornref12_Civil.j0 (k + 1) y0 y1)) ∧ (∀ y0 y1 y2, LeO (posthornref12_Civil.l0 k y0 y1 y2) (posthornref12_Civil.l0 (k + 1) y0 y1 y2)) ∧ (∀ y0 y1 y2, LeO (posthornref12_Civil.l1 k y0 y1 y2) (posthornref12_Civil.l1 (k + 1) y0 y1 y2))
  | 0 => ⟨fun _ _ r h => by simp [posthornref12_Civil.j0] at h, fun _ _ _ r h => by simp [posthornref12_Civil.l0] at h, fun _ _ _ r h => by simp [posthornref12_Civil.l1] at h⟩
  | k + 1 => by
    obtain ⟨ih0, ih1, ih2⟩ := posthornref12_Civil.mono_l k
    refine ⟨?_, ?_, ?_⟩
    · intro y0 y1
      unfold posthornref12_Civil.j0
      repeat' first
      | (with_reducible exact ih0 _ _)
      | (with_reducible exact ih1 _ _ _)
      | (with_reducible exact ih2 _ _ _)
      | (with_reducible exact posthornref12_Month.mono _ _ _)
      | (with_reducible exact LeO.refl _)
      | (with_reducible exact LeO.none _)
      | (with_reducible refine LeO.ite ?_ ?_)
      | (with_reducible refine LeO.bind ?_ (fun _ => ?_))
      | exact ih0 _ _
      | exact ih1 _ _ _
      | exact ih2 _ _ _
      | exact posthornref12_Month.mono _ _ _
      | exact LeO.none _
      | refine LeO.ite ?_ ?_
      | refine LeO.bind ?_ (fun _ => ?_)
    · intro y0 y1 y2
      unfold posthornref12_Civil.l0
      repeat' first
      | (with_reducible exact ih0 _ _)
      | (with_reducible exact ih1 _ _ _)
      | (with_reducible exact ih2 _ _ _)
      | (with_reducible exact posthornref12_Month.mono _ _ _)
      | (with_reducible exact LeO.refl _)
      | (with_reducible exact LeO.none _)
      | (with_reducible refine LeO.ite ?_ ?_)
      | (with_reducible refine LeO.bind ?_ (fun _ => ?_))
      | exact ih0 _ _
      | exact ih1 _ _ _
      | exact ih2 _ _ _
      | exact posthornref12_Month.mono _ _ _
      | exact LeO.none _
      | refine LeO.ite ?_ ?_
      | refine LeO.bind ?_ (fun _ => ?_)
    · intro y0 y1 y2
      unfold posthornref12_Civil.l1
      repeat' first
      | (with_reducible exact ih0 _ _)
      | (with_reducible exact ih1 _ _ _)
      | (with_reducible exact ih2 _ _ _)
      | (with_reducible exact posthornref12_Month.mono _ _ _)
      | (with_reducible exact LeO.refl _)
      | (with_reducible exact LeO.none _)
      | (with_reducible refine LeO.ite ?_ ?_)
      | (with_reducible refine LeO.bind ?_ (fun _ => ?_))
      | exact ih0 _ _
      | exact ih1 _ _ _
      | exact ih2 _ _ _
      | exact posthornref12_Month.mono _ _ _
      | exact LeO.none _
      | refine LeO.ite ?_ ?_
      | refine LeO.bind ?_ (fun _ => ?_)
theorem posthornref12_Civil.mono : ∀ a0 k, LeO (posthornref12_Civil.f k a0) (posthornref12_Civil.f (k + 1) a0) := by
  intro a0 k
  obtain ⟨ih0, ih1, ih2⟩ := posthornref12_Civil.mono_l k
  unfold posthornref12_Civil.f
  repeat' first
      | (with_reducible exact ih0 _ _)
      | (with_reducible exact ih1 _ _ _)
      | (with_reducible exact ih2 _ _ _)
      | (with_reducible exact posthornref12_Month.mono _ _ _)
      | (with_reducible exact LeO.refl _)
      | (with_reducible exact LeO.none _)
      | (with_reducible refine LeO.ite ?_ ?_)
      | (with_reducible refine LeO.bind ?_ (fun _ => ?_))
      | exact ih0 _ _
      | exact ih1 _ _ _
      | exact ih2 _ _ _
      | exact posthornref12_Month.mono _ _ _
      | exact LeO.none _
      | refine LeO.ite ?_ ?_
      | refine LeO.bind ?_ (fun _ => ?_)
set_option maxHeartbeats 8000000 in
set_option maxRecDepth 100000 in
theorem posthornref12_Civil.calls (k : Nat) (a0 : Int) (r1 : Int) (r2 : Int) (r3 : Int) (r4 : Int) (w : World) (h : posthornref12_Civil.f k a0 = some (r1, r2, r3, r4)) :
    Calls Tryz.prog 60 #[.int .i64 a0] w fun e w' => e = .returned (.tuple #[.int .i64 r1, .int .i64 r2, .int .i64 r3, .int .i64 r4]) ∧ Drawn0 w w' := by
  have H : (if a0 < 0 then (posthornref12_Civil.j0 k a0 true) else (posthornref12_Civil.j0 k a0 (decide (a0 > 2932896)))) = some (r1, r2, r3, r4) := h
  clear h
  have HC2 := Aside0.mk H
  clear H
  go_enter Tryz.func60, Tryz.ntmps60
  go_upto_region 1 with (fail)
  go_cut [14] (fun v14 wc => ∃ (kq : Nat) (x14_1 : Bool), v14 = .bool x14_1 ∧ Aside0 (posthornref12_Civil.j0 kq a0 x14_1 = some (r1, r2, r3, r4)) ∧ Aside0 (kq ≤ k) ∧ Drawn0 w wc)
  case first =>
    have H := HC2.out
    clear HC2
    by_cases c3 : a0 < 0
    · rw [if_pos c3] at H
      have c3b0 : decide (a0 < 0) = true := decide_eq_true c3
      clear c3
      (first | rw [c3b0] | (simp only [i64_w, i32_w]; rw [c3b0]) | skip)
      have H' := Aside0.mk H
      clear H
      go_wp2
      go_meet
      case rel => exact ⟨_, (true), (by first | rfl | (simp; done) | (simp [*]; done)), H', ⟨by first | omega | exact Nat.le_refl _⟩, by repeat (first | exact Drawn0.refl _ | apply Drawn0.step)⟩
    · rw [if_neg c3] at H
      have c3b0 : decide (a0 < 0) = false := decide_eq_false c3
      clear c3
      (first | rw [c3b0] | (simp only [i64_w, i32_w]; rw [c3b0]) | skip)
      have H' := Aside0.mk H
      clear H
      go_wp2
      go_meet
      case rel => exact ⟨_, (decide (a0 > 2932896)), (by first | rfl | (simp; done) | (simp [*]; done)), H', ⟨by first | omega | exact Nat.le_refl _⟩, by repeat (first | exact Drawn0.refl _ | apply Drawn0.step)⟩
  case rest =>
    clear HC2
    try clear p2
    try clear c3
    try clear c3b0
    obtain ⟨kq, x14_1, rfl, HA, HJ1, ⟨mc1, rfl⟩⟩ := hcut
    cases kq with
    | zero => exact absurd HA.out (by simp [posthornref12_Civil.j0])
    | succ kj1 =>
      have H := HA.out
      clear HA
      simp only [posthornref12_Civil.j0] at H
      by_cases c4 : x14_1 = true
      · subst c4
        have H1 : (some (0, 0, 0, 110)) = some (r1, r2, r3, r4) := by rw [if_pos rfl] at H; exact H
        clear H
        have H := H1
        clear H1
        simp only [Option.some.injEq, Prod.mk.injEq] at H
        obtain ⟨rfl, rfl, rfl, rfl⟩ := H
        go_wp2
        refine bodyPost_ret (results_list (rs := [.tmp 2, .tmp 3, .tmp 4, .tmp 5]) rfl (by simp) (.tmp (.tmp (.tmp (.tmp .nil))))) rfl ?_
        exact ⟨by first | rfl | (simp; done) | (simp [*]; done), by repeat (first | exact Drawn0.refl _ | apply Drawn0.step)⟩
      · replace c4 := Bool.eq_false_iff.mpr c4
        subst c4
        have H1 : (posthornref12_Civil.l0 kj1 a0 1970 1) = some (r1, r2, r3, r4) := by rw [if_neg (show ¬ (false = true) by decide)] at H; exact H
        clear H
        have H := H1
        clear H1
        have H' := Aside0.mk H
        clear H
        go_wp2
        go_loopg [6, 7] kj1 (fun kq v6 v7 w' => ∃ (x6_2 : Int) (x7_2 : Int), v6 = .int .i64 x6_2 ∧ v7 = .int .i64 x7_2 ∧ Aside0 (posthornref12_Civil.l0 kq x6_2 x7_2 1 = some (r1, r2, r3, r4)) ∧ Aside0 (kq ≤ kj1) ∧ Drawn0 w w')
        case atStart => exact ⟨(a0), (1970), (by first | rfl | (simp; done) | (simp [*]; done)), (by first | rfl | (simp; done) | (simp [*]; done)), H', ⟨Nat.le_refl _⟩, by repeat (first | exact Drawn0.refl _ | apply Drawn0.step)⟩
        case round =>
          clear H'
          try clear c1
          try clear p2
          try clear c3
          try clear c3b0
          try clear c4
          try clear p2
          obtain ⟨x6_2, x7_2, rfl, rfl, HA, HK2, ⟨m2, rfl⟩⟩ := hrel
          cases gk with
          | zero => exact absurd HA.out (by simp [posthornref12_Civil.l0])
          | succ k2 =>
            have H := HA.out
            clear HA
            simp only [posthornref12_Civil.l0] at H
            replace H := Option.bind_eq_some_iff.mp H
            obtain ⟨t324, A50, H⟩ := H
            replace H : (if x6_2 ≥ t324 then ((posthornref12_Year.f x7_2).bind fun t325 => (posthornref12_Civil.l0 k2 (wrap64 (x6_2 - t325)) (wrap64 (x7_2 + 1)) 1)) else (posthornref12_Civil.l1 k2 x6_2 x7_2 1)) = some (r1, r2, r3, r4) := H
            have A5 := Aside0.mk A50
            clear A50
            by_cases c6 : x6_2 ≥ t324
            · rw [if_pos c6] at H
              have c6b0 : decide (t324 ≤ x6_2) = true := decide_eq_true c6
              clear c6
              replace H := Option.bind_eq_some_iff.mp H
              obtain ⟨t325, A70, H⟩ := H
              replace H : (posthornref12_Civil.l0 k2 (wrap64 (x6_2 - t325)) (wrap64 (x7_2 + 1)) 1) = some (r1, r2, r3, r4) := H
              have A7 := Aside0.mk A70
              clear A70
              have H' := Aside0.mk H
              clear H
              go_wp2_with (first | ((with_reducible refine gate_callee (f := 89) rfl ?_); refine goesL_ (some 18) rfl rfl Tryz.func89 (by kernel_rfl) rfl #[.int .i64 x7_2] rfl (by (try simp only [List.map_toArray, List.map_cons, List.map_nil]); first | done | rfl | (simp only [List.length_drop, List.length_take]; rfl)) ?_; (with_reducible refine (posthornref12_Year.calls x7_2 t324 _ A5.out).mono ?_); rintro e w' ⟨rfl, ⟨nd, rfl⟩⟩; refine ⟨_, rfl, ?_⟩) | ((with_reducible refine gate_callee (f := 89) rfl ?_); refine goesL_ (some 22) rfl rfl Tryz.func89 (by kernel_rfl) rfl #[.int .i64 x7_2] rfl (by (try simp only [List.map_toArray, List.map_cons, List.map_nil]); first | done | rfl | (simp only [List.length_drop, List.length_take]; rfl)) ?_; (with_reducible refine (posthornref12_Year.calls x7_2 t325 _ A7.out).mono ?_); rintro e w' ⟨rfl, ⟨nd, rfl⟩⟩; refine ⟨_, rfl, ?_⟩))
              go_roundg k2
              case measure => have := HJ1.out; have := HK2.out; omega
              case rel => exact ⟨(wrap64 (x6_2 - t325)), (wrap64 (x7_2 + 1)), (by first | rfl | (simp; done) | (simp [*]; done)), (by first | rfl | (simp; done) | (simp [*]; done)), H', ⟨by have := HJ1.out; have := HK2.out; omega⟩, by repeat (first | exact Drawn0.refl _ | apply Drawn0.step)⟩
            · rw [if_neg c6] at H
              have c6b0 : decide (t324 ≤ x6_2) = false := decide_eq_false c6
              clear c6
              have H' := Aside0.mk H
              clear H
              go_wp2_with (first | ((with_reducible refine gate_callee (f := 89) rfl ?_); refine goesL_ (some 18) rfl rfl Tryz.func89 (by kernel_rfl) rfl #[.int .i64 x7_2] rfl (by (try simp only [List.map_toArray, List.map_cons, List.map_nil]); first | done | rfl | (simp only [List.length_drop, List.length_take]; rfl)) ?_; (with_reducible refine (posthornref12_Year.calls x7_2 t324 _ A5.out).mono ?_); rintro e w' ⟨rfl, ⟨nd, rfl⟩⟩; refine ⟨_, rfl, ?_⟩))
              go_loopg [6, 8] k2 (fun kq v6 v8 w' => ∃ (x6_3 : Int) (x8_3 : Int), v6 = .int .i64 x6_3 ∧ v8 = .int .i64 x8_3 ∧ Aside0 (posthornref12_Civil.l1 kq x6_3 x7_2 x8_3 = some (r1, r2, r3, r4)) ∧ Aside0 (kq ≤ k2) ∧ Drawn0 w w')
              case atStart => exact ⟨(x6_2), (1), (by first | rfl | (simp; done) | (simp [*]; done)), (by first | rfl | (simp; done) | (simp [*]; done)), H', ⟨Nat.le_refl _⟩, by repeat (first | exact Drawn0.refl _ | apply Drawn0.step)⟩
              case round =>
                clear H'
                try clear c1
                try clear p2
                try clear c3
                try clear c3b0
                try clear c4
                try clear c6
                try clear c6b0
                try clear p6
                try clear p2
                obtain ⟨x6_3, x8_3, rfl, rfl, HA, HK3, ⟨m3, rfl⟩⟩ := hrel
                cases gk with
                | zero => exact absurd HA.out (by simp [posthornref12_Civil.l1])
                | succ k3 =>
                  have H := HA.out
                  clear HA
                  simp only [posthornref12_Civil.l1] at H
                  replace H := Option.bind_eq_some_iff.mp H
                  obtain ⟨t326, A80, H⟩ := H
                  replace H : (if x6_3 ≥ t326 then ((posthornref12_Month.f k3 x7_2 x8_3).bind fun t327 => (posthornref12_Civil.l1 k3 (wrap64 (x6_3 - t327)) x7_2 (wrap64 (x8_3 + 1)))) else (some (x7_2, x8_3, wrap64 (x6_3 + 1), 0))) = some (r1, r2, r3, r4) := H
                  have A8 := Aside0.mk A80
                  clear A80
                  by_cases c9 : x6_3 ≥ t326
                  · rw [if_pos c9] at H
                    have c9b0 : decide (t326 ≤ x6_3) = true := decide_eq_true c9
                    clear c9
                    replace H := Option.bind_eq_some_iff.mp H
                    obtain ⟨t327, A100, H⟩ := H
                    replace H : (posthornref12_Civil.l1 k3 (wrap64 (x6_3 - t327)) x7_2 (wrap64 (x8_3 + 1))) = some (r1, r2, r3, r4) := H
                    have A10 := Aside0.mk A100
                    clear A100
                    have H' := Aside0.mk H
                    clear H
                    go_wp2_with (first | ((with_reducible refine gate_callee (f := 90) rfl ?_); refine goesL_ (some 29) rfl rfl Tryz.func90 (by kernel_rfl) rfl #[.int .i64 x7_2, .int .i64 x8_3] rfl (by (try simp only [List.map_toArray, List.map_cons, List.map_nil]); first | done | rfl | (simp only [List.length_drop, List.length_take]; rfl)) ?_; (with_reducible refine (posthornref12_Month.calls k3 x7_2 x8_3 t326 _ A8.out).mono ?_); rintro e w' ⟨rfl, ⟨nd, rfl⟩⟩; refine ⟨_, rfl, ?_⟩) | ((with_reducible refine gate_callee (f := 90) rfl ?_); refine goesL_ (some 34) rfl rfl Tryz.func90 (by kernel_rfl) rfl #[.int .i64 x7_2, .int .i64 x8_3] rfl (by (try simp only [List.map_toArray, List.map_cons, List.map_nil]); first | done | rfl | (simp only [List.length_drop, List.length_take]; rfl)) ?_; (with_reducible refine (posthornref12_Month.calls k3 x7_2 x8_3 t327 _ A10.out).mono ?_); rintro e w' ⟨rfl, ⟨nd, rfl⟩⟩; refine ⟨_, rfl, ?_⟩))
                    go_roundg k3
                    case measure => have := HJ1.out; have := HK2.out; have := HK3.out; omega
                    case rel => exact ⟨(wrap64 (x6_3 - t327)), (wrap64 (x8_3 + 1)), (by first | rfl | (simp; done) | (simp [*]; done)), (by first | rfl | (simp; done) | (simp [*]; done)), H', ⟨by have := HJ1.out; have := HK2.out; have := HK3.out; omega⟩, by repeat (first | exact Drawn0.refl _ | apply Drawn0.step)⟩
                  · rw [if_neg c9] at H
                    have c9b0 : decide (t326 ≤ x6_3) = false := decide_eq_false c9
                    clear c9
                    simp only [Option.some.injEq, Prod.mk.injEq] at H
                    obtain ⟨rfl, rfl, rfl, rfl⟩ := H
                    go_wp2_with (first | ((with_reducible refine gate_callee (f := 90) rfl ?_); refine goesL_ (some 29) rfl rfl Tryz.func90 (by kernel_rfl) rfl #[.int .i64 x7_2, .int .i64 x8_3] rfl (by (try simp only [List.map_toArray, List.map_cons, List.map_nil]); first | done | rfl | (simp only [List.length_drop, List.length_take]; rfl)) ?_; (with_reducible refine (posthornref12_Month.calls k3 x7_2 x8_3 t326 _ A8.out).mono ?_); rintro e w' ⟨rfl, ⟨nd, rfl⟩⟩; refine ⟨_, rfl, ?_⟩))
                    refine bodyPost_ret (results_list (rs := [.tmp 2, .tmp 3, .tmp 4, .tmp 5]) rfl (by simp) (.tmp (.tmp (.tmp (.tmp .nil))))) rfl ?_
                    exact ⟨by first | rfl | (simp; done) | (simp [*]; done), by repeat (first | exact Drawn0.refl _ | apply Drawn0.step)⟩
def posthornref20_Weekday.j0 : Nat → Int → Bool → Option (Int × Int)
  | 0, _, _ => none
  | k + 1, x0, x10 => if x10 = true then (some (0, 110)) else (if (Int.tmod x0 7) < 4 then (some (wrap64 ((Int.tmod x0 7) + 3), 0)) else (some (wrap64 ((Int.tmod x0 7) - 4), 0)))
def posthornref20_Weekday.f (k : Nat) (a0 : Int) : Option (Int × Int) := if a0 < 0 then (posthornref20_Weekday.j0 k a0 true) else (posthornref20_Weekday.j0 k a0 (decide (a0 > 2932896)))
theorem posthornref20_Weekday.mono_l : ∀ k, (∀ y0 y1, LeO (posthornref20_Weekday.j0 k y0 y1) (posthornref20_Weekday.j0 (k + 1) y0 y1))
  | 0 => fun _ _ r h => by simp [posthornref20_Weekday.j0] at h
  | k + 1 => by
    have ih0 := posthornref20_Weekday.mono_l k
    · intro y0 y1
      unfold posthornref20_Weekday.j0
      repeat' first
      | (with_reducible exact ih0 _ _)
      | (with_reducible exact LeO.refl _)
      | (with_reducible exact LeO.none _)
      | (with_reducible refine LeO.ite ?_ ?_)
      | (with_reducible refine LeO.bind ?_ (fun _ => ?_))
      | exact ih0 _ _
      | exact LeO.none _
      | refine LeO.ite ?_ ?_
      | refine LeO.bind ?_ (fun _ => ?_)
theorem posthornref20_Weekday.mono : ∀ a0 k, LeO (posthornref20_Weekday.f k a0) (posthornref20_Weekday.f (k + 1) a0) := by
  intro a0 k
  have ih0 := posthornref20_Weekday.mono_l k
  unfold posthornref20_Weekday.f
  repeat' first
      | (with_reducible exact ih0 _ _)
      | (with_reducible exact LeO.refl _)
      | (with_reducible exact LeO.none _)
      | (with_reducible refine LeO.ite ?_ ?_)
      | (with_reducible refine LeO.bind ?_ (fun _ => ?_))
      | exact ih0 _ _
      | exact LeO.none _
      | refine LeO.ite ?_ ?_
      | refine LeO.bind ?_ (fun _ => ?_)
set_option maxHeartbeats 8000000 in
set_option maxRecDepth 100000 in
theorem posthornref20_Weekday.calls (k : Nat) (a0 : Int) (r1 : Int) (r2 : Int) (w : World) (h : posthornref20_Weekday.f k a0 = some (r1, r2)) :
    Calls Tryz.prog 61 #[.int .i64 a0] w fun e w' => e = .returned (.tuple #[.int .i64 r1, .int .i64 r2]) ∧ Drawn0 w w' := by
  have H : (if a0 < 0 then (posthornref20_Weekday.j0 k a0 true) else (posthornref20_Weekday.j0 k a0 (decide (a0 > 2932896)))) = some (r1, r2) := h
  clear h
  have HC2 := Aside0.mk H
  clear H
  go_enter Tryz.func61, Tryz.ntmps61
  go_upto_region 1 with (fail)
  go_cut [10] (fun v10 wc => ∃ (kq : Nat) (x10_1 : Bool), v10 = .bool x10_1 ∧ Aside0 (posthornref20_Weekday.j0 kq a0 x10_1 = some (r1, r2)) ∧ Aside0 (kq ≤ k) ∧ Drawn0 w wc)
  case first =>
    have H := HC2.out
    clear HC2
    by_cases c3 : a0 < 0
    · rw [if_pos c3] at H
      have c3b0 : decide (a0 < 0) = true := decide_eq_true c3
      clear c3
      (first | rw [c3b0] | (simp only [i64_w, i32_w]; rw [c3b0]) | skip)
      have H' := Aside0.mk H
      clear H
      go_wp2
      go_meet
      case rel => exact ⟨_, (true), (by first | rfl | (simp; done) | (simp [*]; done)), H', ⟨by first | omega | exact Nat.le_refl _⟩, by repeat (first | exact Drawn0.refl _ | apply Drawn0.step)⟩
    · rw [if_neg c3] at H
      have c3b0 : decide (a0 < 0) = false := decide_eq_false c3
      clear c3
      (first | rw [c3b0] | (simp only [i64_w, i32_w]; rw [c3b0]) | skip)
      have H' := Aside0.mk H
      clear H
      go_wp2
      go_meet
      case rel => exact ⟨_, (decide (a0 > 2932896)), (by first | rfl | (simp; done) | (simp [*]; done)), H', ⟨by first | omega | exact Nat.le_refl _⟩, by repeat (first | exact Drawn0.refl _ | apply Drawn0.step)⟩
  case rest =>
    clear HC2
    try clear p2
    try clear c3
    try clear c3b0
    obtain ⟨kq, x10_1, rfl, HA, HJ1, ⟨mc1, rfl⟩⟩ := hcut
    cases kq with
    | zero => exact absurd HA.out (by simp [posthornref20_Weekday.j0])
    | succ kj1 =>
      have H := HA.out
      clear HA
      simp only [posthornref20_Weekday.j0] at H
      by_cases c4 : x10_1 = true
      · subst c4
        have H1 : (some (0, 110)) = some (r1, r2) := by rw [if_pos rfl] at H; exact H
        clear H
        have H := H1
        clear H1
        simp only [Option.some.injEq, Prod.mk.injEq] at H
        obtain ⟨rfl, rfl⟩ := H
        go_wp2
        go_ret2
        exact ⟨by first | rfl | (simp; done) | (simp [*]; done), by repeat (first | exact Drawn0.refl _ | apply Drawn0.step)⟩
      · replace c4 := Bool.eq_false_iff.mpr c4
        subst c4
        have H1 : (if (Int.tmod a0 7) < 4 then (some (wrap64 ((Int.tmod a0 7) + 3), 0)) else (some (wrap64 ((Int.tmod a0 7) - 4), 0))) = some (r1, r2) := by rw [if_neg (show ¬ (false = true) by decide)] at H; exact H
        clear H
        have H := H1
        clear H1
        by_cases c5 : (Int.tmod a0 7) < 4
        · rw [if_pos c5] at H
          have c5b0 : decide ((Int.tmod a0 7) < 4) = true := decide_eq_true c5
          clear c5
          simp only [Option.some.injEq, Prod.mk.injEq] at H
          obtain ⟨rfl, rfl⟩ := H
          go_wp2
          go_ret2
          exact ⟨by first | rfl | (simp; done) | (simp [*]; done), by repeat (first | exact Drawn0.refl _ | apply Drawn0.step)⟩
        · rw [if_neg c5] at H
          have c5b0 : decide ((Int.tmod a0 7) < 4) = false := decide_eq_false c5
          clear c5
          simp only [Option.some.injEq, Prod.mk.injEq] at H
          obtain ⟨rfl, rfl⟩ := H
          go_wp2
          go_ret2
          exact ⟨by first | rfl | (simp; done) | (simp [*]; done), by repeat (first | exact Drawn0.refl _ | apply Drawn0.step)⟩
def posthornref21_has.l0 : Nat → List Int → Int → Int → Option (Bool)
  | 0, _, _, _ => none
  | k + 1, x0, x1, x5 => if x5 < (x0.length : Int) then (if 0 ≤ x5 then (if (rd x0 x5) = x1 then (some true) else (posthornref21_has.l0 k x0 x1 (wrap64 (x5 + 1)))) else (none)) else (some false)
def posthornref21_has.f (k : Nat) (l0 : List Int) (a1 : Int) : Option (Bool) := posthornref21_has.l0 k l0 a1 0
theorem posthornref21_has.mono_l : ∀ k, (∀ y0 y1 y2, LeO (posthornref21_has.l0 k y0 y1 y2) (posthornref21_has.l0 (k + 1) y0 y1 y2))
  | 0 => fun _ _ _ r h => by simp [posthornref21_has.l0] at h
  | k + 1 => by
    have ih0 := posthornref21_has.mono_l k
    · intro y0 y1 y2
      unfold posthornref21_has.l0
      repeat' first
      | (with_reducible exact ih0 _ _ _)
      | (with_reducible exact LeO.refl _)
      | (with_reducible exact LeO.none _)
      | (with_reducible refine LeO.ite ?_ ?_)
      | (with_reducible refine LeO.bind ?_ (fun _ => ?_))
      | exact ih0 _ _ _
      | exact LeO.none _
      | refine LeO.ite ?_ ?_
      | refine LeO.bind ?_ (fun _ => ?_)
theorem posthornref21_has.mono : ∀ a0 a1 k, LeO (posthornref21_has.f k a0 a1) (posthornref21_has.f (k + 1) a0 a1) := by
  intro a0 a1 k
  have ih0 := posthornref21_has.mono_l k
  unfold posthornref21_has.f
  repeat' first
      | (with_reducible exact ih0 _ _ _)
      | (with_reducible exact LeO.refl _)
      | (with_reducible exact LeO.none _)
      | (with_reducible refine LeO.ite ?_ ?_)
      | (with_reducible refine LeO.bind ?_ (fun _ => ?_))
      | exact ih0 _ _ _
      | exact LeO.none _
      | refine LeO.ite ?_ ?_
      | refine LeO.bind ?_ (fun _ => ?_)
set_option maxHeartbeats 8000000 in
set_option maxRecDepth 100000 in
theorem posthornref21_has.calls (k : Nat) (A0 : Option Addr) (c0 : Nat) (l0 : List Int) (a1 : Int) (r : Bool) (w : World) (hr0 : Kd.C (Kd.int .i64) w A0 l0.length l0) (hc0 : l0.length ≤ c0) (h : posthornref21_has.f k l0 a1 = some r) :
    Calls Tryz.prog 62 #[.slice A0 l0.length c0, .int .i64 a1] w fun e w' => e = .returned (.bool r) ∧ Drawn0 w w' := by
  have HR0 := Aside0.mk hr0
  have HC0 := Aside0.mk hc0
  clear hr0 hc0
  have H : (posthornref21_has.l0 k l0 a1 0) = some r := h
  clear h
  have H' := Aside0.mk H
  clear H
  go_enter Tryz.func62, Tryz.ntmps62
  go_wp2
  go_loopg [5] k (fun kq v5 w' => ∃ (x5_1 : Int), v5 = .int .i64 x5_1 ∧ Aside0 (posthornref21_has.l0 kq l0 a1 x5_1 = some r) ∧ Aside0 (kq ≤ k) ∧ Drawn0 w w')
  case atStart => exact ⟨(0), (by first | rfl | (simp; done) | (simp [*]; done)), H', ⟨Nat.le_refl _⟩, by repeat (first | exact Drawn0.refl _ | apply Drawn0.step)⟩
  case round =>
    clear H'
    try clear p2
    obtain ⟨x5_1, rfl, HA, HK1, ⟨m1, rfl⟩⟩ := hrel
    cases gk with
    | zero => exact absurd HA.out (by simp [posthornref21_has.l0])
    | succ k1 =>
      have H := HA.out
      clear HA
      simp only [posthornref21_has.l0] at H
      by_cases c3 : x5_1 < (l0.length : Int)
      · rw [if_pos c3] at H
        have c3b0 : decide (x5_1 < (l0.length : Int)) = true := decide_eq_true c3
        clear c3
        by_cases c4 : 0 ≤ x5_1
        · rw [if_pos c4] at H
          have c4b0 : decide (0 ≤ x5_1) = true := decide_eq_true c4
          clear c4
          by_cases c5 : (rd l0 x5_1) = a1
          · rw [if_pos c5] at H
            have c5b0 : ((rd l0 x5_1) == a1) = true := beq_iff_eq.mpr c5
            have c5b1 : ((rd l0 x5_1) != a1) = false := bne_eq_false_iff_eq.mpr c5
            clear c5
            obtain rfl := Option.some.inj H
            have p328 : 0 ≤ (x5_1 : Int) := of_decide_eq_true (by first | (with_reducible assumption) | assumption)
            have q328 : x5_1 < (l0.length : Int) := of_decide_eq_true (by first | (with_reducible assumption) | assumption)
            obtain ⟨ad328, e328, hx328_0⟩ := Kd.at_int HR0.out x5_1 p328 q328
            cases e328
            replace p328 := eq_true p328
            replace q328 := eq_true q328
            go_wp2
            go_ret
            exact ⟨by first | rfl | (simp; done) | (simp [*]; done), by repeat (first | exact Drawn0.refl _ | apply Drawn0.step)⟩
          · rw [if_neg c5] at H
            have c5b0 : ((rd l0 x5_1) == a1) = false := beq_eq_false_iff_ne.mpr c5
            have c5b1 : ((rd l0 x5_1) != a1) = true := bne_iff_ne.mpr c5
            have H' := Aside0.mk H
            clear H
            have p328 : 0 ≤ (x5_1 : Int) := of_decide_eq_true (by first | (with_reducible assumption) | assumption)
            have q328 : x5_1 < (l0.length : Int) := of_decide_eq_true (by first | (with_reducible assumption) | assumption)
            obtain ⟨ad328, e328, hx328_0⟩ := Kd.at_int HR0.out x5_1 p328 q328
            cases e328
            replace p328 := eq_true p328
            replace q328 := eq_true q328
            go_wp2
            go_roundg k1
            case measure => have := HK1.out; omega
            case rel => exact ⟨(wrap64 (x5_1 + 1)), (by first | rfl | (simp; done) | (simp [*]; done)), H', ⟨by have := HK1.out; omega⟩, by repeat (first | exact Drawn0.refl _ | apply Drawn0.step)⟩
        · rw [if_neg c4] at H
          exact absurd H (by simp)
      · rw [if_neg c3] at H
        have c3b0 : decide (x5_1 < (l0.length : Int)) = false := decide_eq_false c3
        clear c3
        obtain rfl := Option.some.inj H
        go_wp2
        go_ret
        exact ⟨by first | rfl | (simp; done) | (simp [*]; done), by repeat (first | exact Drawn0.refl _ | apply Drawn0.step)⟩
def posthornref21_on.l0 : Nat → Int → Int → Int → Int → Int → Int → List Int → List Int → List (S60) → Option (Bool)
  | 0, _, _, _, _, _, _, _, _, _ => none
  | k + 1, x1, x5, x330000, x330001, x330002, x330003, x330004, x330005, x330006 => if x5 < (x330006.length : Int) then (if 0 ≤ x5 then (if ((rd_T60 x330006 x5).f0) = x1 then (some true) else (posthornref21_on.l0 k x1 (wrap64 (x5 + 1)) x330000 x330001 x330002 x330003 x330004 x330005 x330006)) else (none)) else (some false)
def posthornref21_on.f (k : Nat) (a0_0 : Int) (a0_1 : Int) (a0_2 : Int) (a0_3 : Int) (l0_4 : List Int) (l0_5 : List Int) (l0_6 : List (S60)) (a1 : Int) : Option (Bool) := posthornref21_on.l0 k a1 0 a0_0 a0_1 a0_2 a0_3 l0_4 l0_5 l0_6
theorem posthornref21_on.mono_l : ∀ k, (∀ y0 y1 y2 y3 y4 y5 y6 y7 y8, LeO (posthornref21_on.l0 k y0 y1 y2 y3 y4 y5 y6 y7 y8) (posthornref21_on.l0 (k + 1) y0 y1 y2 y3 y4 y5 y6 y7 y8))
  | 0 => fun _ _ _ _ _ _ _ _ _ r h => by simp [posthornref21_on.l0] at h
  | k + 1 => by
    have ih0 := posthornref21_on.mono_l k
    · intro y0 y1 y2 y3 y4 y5 y6 y7 y8
      unfold posthornref21_on.l0
      repeat' first
      | (with_reducible exact ih0 _ _ _ _ _ _ _ _ _)
      | (with_reducible exact LeO.refl _)
      | (with_reducible exact LeO.none _)
      | (with_reducible refine LeO.ite ?_ ?_)
      | (with_reducible refine LeO.bind ?_ (fun _ => ?_))
      | exact ih0 _ _ _ _ _ _ _ _ _
      | exact LeO.none _
      | refine LeO.ite ?_ ?_
      | refine LeO.bind ?_ (fun _ => ?_)
theorem posthornref21_on.mono : ∀ a0 a1 a2 a3 a4 a5 a6 a7 k, LeO (posthornref21_on.f k a0 a1 a2 a3 a4 a5 a6 a7) (posthornref21_on.f (k + 1) a0 a1 a2 a3 a4 a5 a6 a7) := by
  intro a0 a1 a2 a3 a4 a5 a6 a7 k
  have ih0 := posthornref21_on.mono_l k
  unfold posthornref21_on.f
  repeat' first
      | (with_reducible exact ih0 _ _ _ _ _ _ _ _ _)
      | (with_reducible exact LeO.refl _)
      | (with_reducible exact LeO.none _)
      | (with_reducible refine LeO.ite ?_ ?_)
      | (with_reducible refine LeO.bind ?_ (fun _ => ?_))
      | exact ih0 _ _ _ _ _ _ _ _ _
      | exact LeO.none _
      | refine LeO.ite ?_ ?_
      | refine LeO.bind ?_ (fun _ => ?_)
set_option maxHeartbeats 8000000 in
set_option maxRecDepth 100000 in
theorem posthornref21_on.calls (k : Nat) (a0_0 : Int) (a0_1 : Int) (a0_2 : Int) (a0_3 : Int) (A0_4 : Option Addr) (c0_4 : Nat) (l0_4 : List Int) (A0_5 : Option Addr) (c0_5 : Nat) (l0_5 : List Int) (A0_6 : Option Addr) (c0_6 : Nat) (l0_6 : List (S60)) (a1 : Int) (r : Bool) (w : World) (hr0_4 : Kd.C (Kd.int .i64) w A0_4 l0_4.length l0_4) (hc0_4 : l0_4.length ≤ c0_4) (hr0_5 : Kd.C (Kd.int .i64) w A0_5 l0_5.length l0_5) (hc0_5 : l0_5.length ≤ c0_5) (hr0_6 : Kd.C k60 w A0_6 l0_6.length l0_6) (hc0_6 : l0_6.length ≤ c0_6) (h : posthornref21_on.f k a0_0 a0_1 a0_2 a0_3 l0_4 l0_5 l0_6 a1 = some r) :
    Calls Tryz.prog 63 #[.agg #[.int .i64 a0_0, .int .i64 a0_1, .int .i64 a0_2, .int .i64 a0_3, .slice A0_4 l0_4.length c0_4, .slice A0_5 l0_5.length c0_5, .slice A0_6 l0_6.length c0_6], .int .i64 a1] w fun e w' => e = .returned (.bool r) ∧ Below w.heap.size w w' := by
  have hu34 := Tryz.underlying34
  have HR0_4 := Aside0.mk hr0_4
  have HC0_4 := Aside0.mk hc0_4
  clear hr0_4 hc0_4
  have HR0_5 := Aside0.mk hr0_5
  have HC0_5 := Aside0.mk hc0_5
  clear hr0_5 hc0_5
  have HR0_6 := Aside0.mk hr0_6
  have HC0_6 := Aside0.mk hc0_6
  clear hr0_6 hc0_6
  have HB := Aside0.mk (Below.refl w.heap.size w)
  have H : (posthornref21_on.l0 k a1 0 a0_0 a0_1 a0_2 a0_3 l0_4 l0_5 l0_6) = some r := h
  clear h
  have H' := Aside0.mk H
  clear H
  go_enter Tryz.func63, Tryz.ntmps63
  go_wp2_with (first | ((with_reducible refine gate_dst (N := 2) rfl ?_); refine box_event ?hg (N := 2) ?hd (cs := #[.int .i64 a0_0, .int .i64 a0_1, .int .i64 a0_2, .int .i64 a0_3, .slice A0_4 l0_4.length c0_4, .slice A0_5 l0_5.length c0_5, .slice A0_6 l0_6.length c0_6]) (t := 34) ?hr ?_; (case hd => rfl); (case hg => rfl); (case hr => first | (go_simp; done) | (go_simp; rfl)); intro gb329 hg w3 hbox hb; have n0_ := Aside0.mk (below_step (by repeat (first | (with_reducible first | exact HB.out | apply below_alloc | apply pw_below_drewN | apply below_drew1) | exact HB.out)) hb); have n1_ := Aside0.mk (hbox); have n2_ := Aside0.mk ((by rw [hg]; exact (below_size (by repeat (first | (with_reducible first | exact HB.out | apply below_alloc | apply pw_below_drewN | apply below_drew1) | exact HB.out))) : w.heap.size ≤ gb329)); have n3_ := Aside0.mk ((by rw [hg]; exact (below_size (by repeat (first | (with_reducible first | exact HB.out | apply below_alloc | apply pw_below_drewN | apply below_drew1) | exact HB.out))) : w.heap.size ≤ gb329)); clear HB; have HB := n0_; have BK329 := n1_; have GW329 := n2_; have GE329 := n3_; clear n0_ n1_ n2_ n3_; clear hb hbox hg))
  go_loopg [5] k (fun kq v5 w' => ∃ (x5_1 : Int), v5 = .int .i64 x5_1 ∧ Aside0 (posthornref21_on.l0 kq a1 x5_1 a0_0 a0_1 a0_2 a0_3 l0_4 l0_5 l0_6 = some r) ∧ Aside0 (kq ≤ k) ∧ Aside0 (w'.heap[gb329]? = some (.cells #[.int .i64 a0_0, .int .i64 a0_1, .int .i64 a0_2, .int .i64 a0_3, (.slice A0_4 l0_4.length c0_4), (.slice A0_5 l0_5.length c0_5), (.slice A0_6 l0_6.length c0_6)] 34 (0, 0))) ∧ Aside0 (Below w.heap.size w w'))
  case atStart => exact ⟨(0), (by first | rfl | (simp; done) | (simp [*]; done)), H', ⟨Nat.le_refl _⟩, ⟨by (with_reducible repeat (first | refine blk_drewN ?_ _ | refine blk_drew ?_ | refine blk_alloc ?_ _)); exact BK329.out⟩, ⟨by repeat (first | (with_reducible first | exact HB.out | apply below_alloc | apply pw_below_drewN | apply below_drew1 | refine below_set ?_ GE329.out) | exact HB.out)⟩⟩
  case round =>
    clear H'
    try clear p2
    obtain ⟨x5_1, rfl, HA, HK1, BK329, HB⟩ := hrel
    cases gk with
    | zero => exact absurd HA.out (by simp [posthornref21_on.l0])
    | succ k1 =>
      have H := HA.out
      clear HA
      simp only [posthornref21_on.l0] at H
      by_cases c4 : x5_1 < (l0_6.length : Int)
      · rw [if_pos c4] at H
        have c4b0 : decide (x5_1 < (l0_6.length : Int)) = true := decide_eq_true c4
        clear c4
        by_cases c5 : 0 ≤ x5_1
        · rw [if_pos c5] at H
          have c5b0 : decide (0 ≤ x5_1) = true := decide_eq_true c5
          clear c5
          by_cases c6 : ((rd_T60 l0_6 x5_1).f0) = a1
          · rw [if_pos c6] at H
            have c6b0 : (((rd_T60 l0_6 x5_1).f0) == a1) = true := beq_iff_eq.mpr c6
            have c6b1 : (((rd_T60 l0_6 x5_1).f0) != a1) = false := bne_eq_false_iff_eq.mpr c6
            clear c6
            obtain rfl := Option.some.inj H
            have hcz7_0 : wr.cell? ⟨gb329, 0, none⟩ = some (.int .i64 a0_0) := (blk_cell BK329.out 0).trans rfl
            have hcz7_1 : wr.cell? ⟨gb329, 1, none⟩ = some (.int .i64 a0_1) := (blk_cell BK329.out 1).trans rfl
            have hcz7_2 : wr.cell? ⟨gb329, 2, none⟩ = some (.int .i64 a0_2) := (blk_cell BK329.out 2).trans rfl
            have hcz7_3 : wr.cell? ⟨gb329, 3, none⟩ = some (.int .i64 a0_3) := (blk_cell BK329.out 3).trans rfl
            have hcz7_4 : wr.cell? ⟨gb329, 4, none⟩ = some (.slice A0_4 l0_4.length c0_4) := (blk_cell BK329.out 4).trans rfl
            have hcz7_5 : wr.cell? ⟨gb329, 5, none⟩ = some (.slice A0_5 l0_5.length c0_5) := (blk_cell BK329.out 5).trans rfl
            have hcz7_6 : wr.cell? ⟨gb329, 6, none⟩ = some (.slice A0_6 l0_6.length c0_6) := (blk_cell BK329.out 6).trans rfl
            have hfz7_0 := blk_frozen BK329.out 0
            have hfz7_1 := blk_frozen BK329.out 1
            have hfz7_2 := blk_frozen BK329.out 2
            have hfz7_3 := blk_frozen BK329.out 3
            have hfz7_4 := blk_frozen BK329.out 4
            have hfz7_5 := blk_frozen BK329.out 5
            have hfz7_6 := blk_frozen BK329.out 6
            have p330 : 0 ≤ (x5_1 : Int) := of_decide_eq_true (by first | (with_reducible assumption) | assumption)
            have q330 : x5_1 < (l0_6.length : Int) := of_decide_eq_true (by first | (with_reducible assumption) | assumption)
            obtain ⟨ad330, e330, hx330_0, hx330_1⟩ := at_T60 HR0_6.out x5_1 p330 q330
            cases e330
            replace hx330_0 := (HB.out.cell (World.block_lt_of_cell? w _ hx330_0)).trans hx330_0
            replace hx330_1 := (HB.out.cell (World.block_lt_of_cell? w _ hx330_1)).trans hx330_1
            replace p330 := eq_true p330
            replace q330 := eq_true q330
            go_wp2
            go_ret
            exact ⟨by first | rfl | (simp [errW_none, errW_some] <;> rfl) | (simp [*, errW_none, errW_some] <;> rfl), by repeat (first | (with_reducible first | exact HB.out | apply below_alloc | apply pw_below_drewN | apply below_drew1 | refine below_set ?_ GE329.out) | exact HB.out)⟩
          · rw [if_neg c6] at H
            have c6b0 : (((rd_T60 l0_6 x5_1).f0) == a1) = false := beq_eq_false_iff_ne.mpr c6
            have c6b1 : (((rd_T60 l0_6 x5_1).f0) != a1) = true := bne_iff_ne.mpr c6
            have H' := Aside0.mk H
            clear H
            have hcz8_0 : wr.cell? ⟨gb329, 0, none⟩ = some (.int .i64 a0_0) := (blk_cell BK329.out 0).trans rfl
            have hcz8_1 : wr.cell? ⟨gb329, 1, none⟩ = some (.int .i64 a0_1) := (blk_cell BK329.out 1).trans rfl
            have hcz8_2 : wr.cell? ⟨gb329, 2, none⟩ = some (.int .i64 a0_2) := (blk_cell BK329.out 2).trans rfl
            have hcz8_3 : wr.cell? ⟨gb329, 3, none⟩ = some (.int .i64 a0_3) := (blk_cell BK329.out 3).trans rfl
            have hcz8_4 : wr.cell? ⟨gb329, 4, none⟩ = some (.slice A0_4 l0_4.length c0_4) := (blk_cell BK329.out 4).trans rfl
            have hcz8_5 : wr.cell? ⟨gb329, 5, none⟩ = some (.slice A0_5 l0_5.length c0_5) := (blk_cell BK329.out 5).trans rfl
            have hcz8_6 : wr.cell? ⟨gb329, 6, none⟩ = some (.slice A0_6 l0_6.length c0_6) := (blk_cell BK329.out 6).trans rfl
            have hfz8_0 := blk_frozen BK329.out 0
            have hfz8_1 := blk_frozen BK329.out 1
            have hfz8_2 := blk_frozen BK329.out 2
            have hfz8_3 := blk_frozen BK329.out 3
            have hfz8_4 := blk_frozen BK329.out 4
            have hfz8_5 := blk_frozen BK329.out 5
            have hfz8_6 := blk_frozen BK329.out 6
            have p330 : 0 ≤ (x5_1 : Int) := of_decide_eq_true (by first | (with_reducible assumption) | assumption)
            have q330 : x5_1 < (l0_6.length : Int) := of_decide_eq_true (by first | (with_reducible assumption) | assumption)
            obtain ⟨ad330, e330, hx330_0, hx330_1⟩ := at_T60 HR0_6.out x5_1 p330 q330
            cases e330
            replace hx330_0 := (HB.out.cell (World.block_lt_of_cell? w _ hx330_0)).trans hx330_0
            replace hx330_1 := (HB.out.cell (World.block_lt_of_cell? w _ hx330_1)).trans hx330_1
            replace p330 := eq_true p330
            replace q330 := eq_true q330
            go_wp2
            go_roundg k1
            case measure => have := HK1.out; omega
            case rel => exact ⟨(wrap64 (x5_1 + 1)), (by first | rfl | (simp; done) | (simp [*]; done)), H', ⟨by have := HK1.out; omega⟩, ⟨by (with_reducible repeat (first | refine blk_drewN ?_ _ | refine blk_drew ?_ | refine blk_alloc ?_ _)); exact BK329.out⟩, ⟨by repeat (first | (with_reducible first | exact HB.out | apply below_alloc | apply pw_below_drewN | apply below_drew1 | refine below_set ?_ GE329.out) | exact HB.out)⟩⟩
        · rw [if_neg c5] at H
          exact absurd H (by simp)
      · rw [if_neg c4] at H
        have c4b0 : decide (x5_1 < (l0_6.length : Int)) = false := decide_eq_false c4
        clear c4
        obtain rfl := Option.some.inj H
        have hcz9_0 : wr.cell? ⟨gb329, 0, none⟩ = some (.int .i64 a0_0) := (blk_cell BK329.out 0).trans rfl
        have hcz9_1 : wr.cell? ⟨gb329, 1, none⟩ = some (.int .i64 a0_1) := (blk_cell BK329.out 1).trans rfl
        have hcz9_2 : wr.cell? ⟨gb329, 2, none⟩ = some (.int .i64 a0_2) := (blk_cell BK329.out 2).trans rfl
        have hcz9_3 : wr.cell? ⟨gb329, 3, none⟩ = some (.int .i64 a0_3) := (blk_cell BK329.out 3).trans rfl
        have hcz9_4 : wr.cell? ⟨gb329, 4, none⟩ = some (.slice A0_4 l0_4.length c0_4) := (blk_cell BK329.out 4).trans rfl
        have hcz9_5 : wr.cell? ⟨gb329, 5, none⟩ = some (.slice A0_5 l0_5.length c0_5) := (blk_cell BK329.out 5).trans rfl
        have hcz9_6 : wr.cell? ⟨gb329, 6, none⟩ = some (.slice A0_6 l0_6.length c0_6) := (blk_cell BK329.out 6).trans rfl
        have hfz9_0 := blk_frozen BK329.out 0
        have hfz9_1 := blk_frozen BK329.out 1
        have hfz9_2 := blk_frozen BK329.out 2
        have hfz9_3 := blk_frozen BK329.out 3
        have hfz9_4 := blk_frozen BK329.out 4
        have hfz9_5 := blk_frozen BK329.out 5
        have hfz9_6 := blk_frozen BK329.out 6
        go_wp2
        go_ret
        exact ⟨by first | rfl | (simp [errW_none, errW_some] <;> rfl) | (simp [*, errW_none, errW_some] <;> rfl), by repeat (first | (with_reducible first | exact HB.out | apply below_alloc | apply pw_below_drewN | apply below_drew1 | refine below_set ?_ GE329.out) | exact HB.out)⟩
end Go.Proofs.YtfbmjonhohebiaaGreatDoor.PRecurExpands
end
