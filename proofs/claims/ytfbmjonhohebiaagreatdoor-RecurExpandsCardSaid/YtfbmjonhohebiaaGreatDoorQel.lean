/- Texts merged: what the law needs, and no more. -/
import Derived.Test.YtfbmjonhohebiaaGreatDoorQek
section
namespace Go.Proofs.YtfbmjonhohebiaaGreatDoor.PRecurExpands
open Go.RowKit Go.Proofs.YtfbmjonhohebiaaGreatDoorW.PrintWords Go.Proofs.YtfbmjonhohebiaaGreatDoorW.PrintLast Go.Proofs.YtfbmjonhohebiaaGreatDoorW.PrintMore
attribute [local go_sem] max2_int min2_int max_two min_two max_three min_three max_four min_four
set_option linter.unusedVariables false
set_option linter.unusedSimpArgs false
mutual
def posthornref21_nth.l0 : Nat → Int → Int → Int → Option (Bool)
  | 0, _, _, _ => none
  | k + 1, x2, x7, x8 => if x8 ≥ 1 then (posthornref21_nth.l0 k x2 (wrap64 (x7 + 1)) (wrap64 (x8 - 7))) else (some (x7 == x2))
def posthornref21_nth.l1 : Nat → Int → Int → Int → Int → Option (Bool)
  | 0, _, _, _, _ => none
  | k + 1, x1, x2, x7, x9 => if x9 ≤ x1 then (posthornref21_nth.l1 k x1 x2 (wrap64 (x7 + 1)) (wrap64 (x9 + 7))) else (some (x7 == (wrap64 (-x2))))
end
def posthornref21_nth.f (k : Nat) (a0 : Int) (a1 : Int) (a2 : Int) : Option (Bool) := if a2 = 0 then (some true) else (if a2 > 0 then (posthornref21_nth.l0 k a2 0 a0) else (posthornref21_nth.l1 k a1 a2 0 a0))
theorem posthornref21_nth.mono_l : ∀ k, (∀ y0 y1 y2, LeO (posthornref21_nth.l0 k y0 y1 y2) (posthornref21_nth.l0 (k + 1) y0 y1 y2)) ∧ (∀ y0 y1 y2 y3, LeO (posthornref21_nth.l1 k y0 y1 y2 y3) (posthornref21_nth.l1 (k + 1) y0 y1 y2 y3))
  | 0 => ⟨fun _ _ _ r h => by simp [posthornref21_nth.l0] at h, fun _ _ _ _ r h => by simp [posthornref21_nth.l1] at h⟩
  | k + 1 => by
    obtain ⟨ih0, ih1⟩ := posthornref21_nth.mono_l k
    refine ⟨?_, ?_⟩
    · intro y0 y1 y2
      unfold posthornref21_nth.l0
      repeat' first
      | (with_reducible exact ih0 _ _ _)
      | (with_reducible exact ih1 _ _ _ _)
      | (with_reducible exact LeO.refl _)
      | (with_reducible exact LeO.none _)
      | (with_reducible refine LeO.ite ?_ ?_)
      | (with_reducible refine LeO.bind ?_ (fun _ => ?_))
      | exact ih0 _ _ _
      | exact ih1 _ _ _ _
      | exact LeO.none _
      | refine LeO.ite ?_ ?_
      | refine LeO.bind ?_ (fun _ => ?_)
    · intro y0 y1 y2 y3
      unfold posthornref21_nth.l1
      repeat' first
      | (with_reducible exact ih0 _ _ _)
      | (with_reducible exact ih1 _ _ _ _)
      | (with_reducible exact LeO.refl _)
      | (with_reducible exact LeO.none _)
      | (with_reducible refine LeO.ite ?_ ?_)
      | (with_reducible refine LeO.bind ?_ (fun _ => ?_))
      | exact ih0 _ _ _
      | exact ih1 _ _ _ _
      | exact LeO.none _
      | refine LeO.ite ?_ ?_
      | refine LeO.bind ?_ (fun _ => ?_)
theorem posthornref21_nth.mono : ∀ a0 a1 a2 k, LeO (posthornref21_nth.f k a0 a1 a2) (posthornref21_nth.f (k + 1) a0 a1 a2) := by
  intro a0 a1 a2 k
  obtain ⟨ih0, ih1⟩ := posthornref21_nth.mono_l k
  unfold posthornref21_nth.f
  repeat' first
      | (with_reducible exact ih0 _ _ _)
      | (with_reducible exact ih1 _ _ _ _)
      | (with_reducible exact LeO.refl _)
      | (with_reducible exact LeO.none _)
      | (with_reducible refine LeO.ite ?_ ?_)
      | (with_reducible refine LeO.bind ?_ (fun _ => ?_))
      | exact ih0 _ _ _
      | exact ih1 _ _ _ _
      | exact LeO.none _
      | refine LeO.ite ?_ ?_
      | refine LeO.bind ?_ (fun _ => ?_)
set_option maxHeartbeats 8000000 in
set_option maxRecDepth 100000 in
theorem posthornref21_nth.calls (k : Nat) (a0 : Int) (a1 : Int) (a2 : Int) (r : Bool) (w : World) (h : posthornref21_nth.f k a0 a1 a2 = some r) :
    Calls Tryz.prog 91 #[.int .i64 a0, .int .i64 a1, .int .i64 a2] w fun e w' => e = .returned (.bool r) ∧ Drawn0 w w' := by
  have H : (if a2 = 0 then (some true) else (if a2 > 0 then (posthornref21_nth.l0 k a2 0 a0) else (posthornref21_nth.l1 k a1 a2 0 a0))) = some r := h
  clear h
  by_cases c4 : a2 = 0
  · rw [if_pos c4] at H
    have c4b0 : (a2 == 0) = true := beq_iff_eq.mpr c4
    have c4b1 : (a2 != 0) = false := bne_eq_false_iff_eq.mpr c4
    clear c4
    obtain rfl := Option.some.inj H
    go_enter Tryz.func91, Tryz.ntmps91
    go_wp2
    go_ret
    exact ⟨by first | rfl | (simp; done) | (simp [*]; done), by repeat (first | exact Drawn0.refl _ | apply Drawn0.step)⟩
  · rw [if_neg c4] at H
    have c4b0 : (a2 == 0) = false := beq_eq_false_iff_ne.mpr c4
    have c4b1 : (a2 != 0) = true := bne_iff_ne.mpr c4
    by_cases c5 : a2 > 0
    · rw [if_pos c5] at H
      have c5b0 : decide (0 < a2) = true := decide_eq_true c5
      clear c5
      have H' := Aside0.mk H
      clear H
      go_enter Tryz.func91, Tryz.ntmps91
      go_wp2
      go_loopg [7, 8] k (fun kq v7 v8 w' => ∃ (x7_1 : Int) (x8_1 : Int), v7 = .int .i64 x7_1 ∧ v8 = .int .i64 x8_1 ∧ Aside0 (posthornref21_nth.l0 kq a2 x7_1 x8_1 = some r) ∧ Aside0 (kq ≤ k) ∧ Drawn0 w w')
      case atStart => exact ⟨(0), (a0), (by first | rfl | (simp; done) | (simp [*]; done)), (by first | rfl | (simp; done) | (simp [*]; done)), H', ⟨Nat.le_refl _⟩, by repeat (first | exact Drawn0.refl _ | apply Drawn0.step)⟩
      case round =>
        clear H'
        try clear p2
        try clear c4
        try clear c4b0
        try clear c4b1
        try clear c5
        try clear c5b0
        obtain ⟨x7_1, x8_1, rfl, rfl, HA, HK1, ⟨m1, rfl⟩⟩ := hrel
        cases gk with
        | zero => exact absurd HA.out (by simp [posthornref21_nth.l0])
        | succ k1 =>
          have H := HA.out
          clear HA
          simp only [posthornref21_nth.l0] at H
          by_cases c6 : x8_1 ≥ 1
          · rw [if_pos c6] at H
            have c6b0 : decide (1 ≤ x8_1) = true := decide_eq_true c6
            clear c6
            have H' := Aside0.mk H
            clear H
            go_wp2
            go_roundg k1
            case measure => have := HK1.out; omega
            case rel => exact ⟨(wrap64 (x7_1 + 1)), (wrap64 (x8_1 - 7)), (by first | rfl | (simp; done) | (simp [*]; done)), (by first | rfl | (simp; done) | (simp [*]; done)), H', ⟨by have := HK1.out; omega⟩, by repeat (first | exact Drawn0.refl _ | apply Drawn0.step)⟩
          · rw [if_neg c6] at H
            have c6b0 : decide (1 ≤ x8_1) = false := decide_eq_false c6
            clear c6
            obtain rfl := Option.some.inj H
            go_wp2
            go_ret
            exact ⟨by first | rfl | (simp; done) | (simp [*]; done), by repeat (first | exact Drawn0.refl _ | apply Drawn0.step)⟩
    · rw [if_neg c5] at H
      have c5b0 : decide (0 < a2) = false := decide_eq_false c5
      clear c5
      have H' := Aside0.mk H
      clear H
      go_enter Tryz.func91, Tryz.ntmps91
      go_wp2
      go_loopg [7, 9] k (fun kq v7 v9 w' => ∃ (x7_1 : Int) (x9_1 : Int), v7 = .int .i64 x7_1 ∧ v9 = .int .i64 x9_1 ∧ Aside0 (posthornref21_nth.l1 kq a1 a2 x7_1 x9_1 = some r) ∧ Aside0 (kq ≤ k) ∧ Drawn0 w w')
      case atStart => exact ⟨(0), (a0), (by first | rfl | (simp; done) | (simp [*]; done)), (by first | rfl | (simp; done) | (simp [*]; done)), H', ⟨Nat.le_refl _⟩, by repeat (first | exact Drawn0.refl _ | apply Drawn0.step)⟩
      case round =>
        clear H'
        try clear p2
        try clear c4
        try clear c4b0
        try clear c4b1
        try clear c5
        try clear c5b0
        try clear c6
        try clear c6b0
        try clear p6
        try clear p2
        obtain ⟨x7_1, x9_1, rfl, rfl, HA, HK1, ⟨m1, rfl⟩⟩ := hrel
        cases gk with
        | zero => exact absurd HA.out (by simp [posthornref21_nth.l1])
        | succ k1 =>
          have H := HA.out
          clear HA
          simp only [posthornref21_nth.l1] at H
          by_cases c7 : x9_1 ≤ a1
          · rw [if_pos c7] at H
            have c7b0 : decide (x9_1 ≤ a1) = true := decide_eq_true c7
            clear c7
            have H' := Aside0.mk H
            clear H
            go_wp2
            go_roundg k1
            case measure => have := HK1.out; omega
            case rel => exact ⟨(wrap64 (x7_1 + 1)), (wrap64 (x9_1 + 7)), (by first | rfl | (simp; done) | (simp [*]; done)), (by first | rfl | (simp; done) | (simp [*]; done)), H', ⟨by have := HK1.out; omega⟩, by repeat (first | exact Drawn0.refl _ | apply Drawn0.step)⟩
          · rw [if_neg c7] at H
            have c7b0 : decide (x9_1 ≤ a1) = false := decide_eq_false c7
            clear c7
            obtain rfl := Option.some.inj H
            go_wp2
            go_ret
            exact ⟨by first | rfl | (simp; done) | (simp [*]; done), by repeat (first | exact Drawn0.refl _ | apply Drawn0.step)⟩
mutual
def posthornref21_month.j0 : Nat → Int → Int → Int → Int → Bool → Int → Int → Int → Int → List Int → List Int → List (S60) → Option (Bool)
  | 0, _, _, _, _, _, _, _, _, _, _, _, _ => none
  | k + 1, x3, x4, x5, x13, x27, x332000, x332001, x332002, x332003, x332004, x332005, x332006 => if x27 = true then (some (x3 == x5)) else (if (x332005.length : Int) > 0 then ((posthornref21_has.f k x332005 x3).bind fun t333 => (if t333 = true then (posthornref21_month.j1 k x3 x4 x13 false x332000 x332001 x332002 x332003 x332004 x332005 x332006) else ((posthornref21_has.f k x332005 (wrap64 ((wrap64 (x3 - 1)) - x13))).bind fun t334 => (posthornref21_month.j1 k x3 x4 x13 (!t334) x332000 x332001 x332002 x332003 x332004 x332005 x332006)))) else (posthornref21_month.j1 k x3 x4 x13 false x332000 x332001 x332002 x332003 x332004 x332005 x332006))
def posthornref21_month.j1 : Nat → Int → Int → Int → Bool → Int → Int → Int → Int → List Int → List Int → List (S60) → Option (Bool)
  | 0, _, _, _, _, _, _, _, _, _, _, _ => none
  | k + 1, x3, x4, x13, x51, x332000, x332001, x332002, x332003, x332004, x332005, x332006 => if x51 = true then (some false) else (posthornref21_month.l0 k x3 x4 x13 0 x332000 x332001 x332002 x332003 x332004 x332005 x332006)
def posthornref21_month.l0 : Nat → Int → Int → Int → Int → Int → Int → Int → Int → List Int → List Int → List (S60) → Option (Bool)
  | 0, _, _, _, _, _, _, _, _, _, _, _ => none
  | k + 1, x3, x4, x13, x14, x332000, x332001, x332002, x332003, x332004, x332005, x332006 => if x14 < (x332006.length : Int) then (if 0 ≤ x14 then (if ((rd_T60 x332006 x14).f0) = x4 then ((posthornref21_nth.f k x3 x13 ((rd_T60 x332006 x14).f1)).bind fun t337 => (if t337 = true then (some true) else (posthornref21_month.l0 k x3 x4 x13 (wrap64 (x14 + 1)) x332000 x332001 x332002 x332003 x332004 x332005 x332006))) else (posthornref21_month.l0 k x3 x4 x13 (wrap64 (x14 + 1)) x332000 x332001 x332002 x332003 x332004 x332005 x332006)) else (none)) else (some ((x332006.length : Int) == 0))
end
def posthornref21_month.f (k : Nat) (a0_0 : Int) (a0_1 : Int) (a0_2 : Int) (a0_3 : Int) (l0_4 : List Int) (l0_5 : List Int) (l0_6 : List (S60)) (a1 : Int) (a2 : Int) (a3 : Int) (a4 : Int) (a5 : Int) : Option (Bool) := (posthornref12_Month.f k a1 a2).bind fun t332 => (if (l0_5.length : Int) = 0 then (posthornref21_month.j0 k a3 a4 a5 t332 ((l0_6.length : Int) == 0) a0_0 a0_1 a0_2 a0_3 l0_4 l0_5 l0_6) else (posthornref21_month.j0 k a3 a4 a5 t332 false a0_0 a0_1 a0_2 a0_3 l0_4 l0_5 l0_6))
theorem posthornref21_month.mono_l : ∀ k, (∀ y0 y1 y2 y3 y4 y5 y6 y7 y8 y9 y10 y11, LeO (posthornref21_month.j0 k y0 y1 y2 y3 y4 y5 y6 y7 y8 y9 y10 y11) (posthornref21_month.j0 (k + 1) y0 y1 y2 y3 y4 y5 y6 y7 y8 y9 y10 y11)) ∧ (∀ y0 y1 y2 y3 y4 y5 y6 y7 y8 y9 y10, LeO (posthornref21_month.j1 k y0 y1 y2 y3 y4 y5 y6 y7 y8 y9 y10) (posthornref21_month.j1 (k + 1) y0 y1 y2 y3 y4 y5 y6 y7 y8 y9 y10)) ∧ (∀ y0 y1 y2 y3 y4 y5 y6 y7 y8 y9 y10, LeO (posthornref21_month.l0 k y0 y1 y2 y3 y4 y5 y6 y7 y8 y9 y10) (posthornref21_month.l0 (k + 1) y0 y1 y2 y3 y4 y5 y6 y7 y8 y9 y10))
  | 0 => ⟨fun _ _ _ _ _ _ _ _ _ _ _ _ r h => by simp [posthornref21_month.j0] at h, fun _ _ _ _ _ _ _ _ _ _ _ r h => by simp [posthornref21_month.j1] at h, fun _ _ _ _ _ _ _ _ _ _ _ r h => by simp [posthornref21_month.l0] at h⟩
  | k + 1 => by
    obtain ⟨ih0, ih1, ih2⟩ := posthornref21_month.mono_l k
    refine ⟨?_, ?_, ?_⟩
    · intro y0 y1 y2 y3 y4 y5 y6 y7 y8 y9 y10 y11
      unfold posthornref21_month.j0
      repeat' first
      | (with_reducible exact ih0 _ _ _ _ _ _ _ _ _ _ _ _)
      | (with_reducible exact ih1 _ _ _ _ _ _ _ _ _ _ _)
      | (with_reducible exact ih2 _ _ _ _ _ _ _ _ _ _ _)
      | (with_reducible exact posthornref12_Month.mono _ _ _)
      | (with_reducible exact posthornref21_has.mono _ _ _)
      | (with_reducible exact posthornref21_nth.mono _ _ _ _)
      | (with_reducible exact LeO.refl _)
      | (with_reducible exact LeO.none _)
      | (with_reducible refine LeO.ite ?_ ?_)
      | (with_reducible refine LeO.bind ?_ (fun _ => ?_))
      | exact ih0 _ _ _ _ _ _ _ _ _ _ _ _
      | exact ih1 _ _ _ _ _ _ _ _ _ _ _
      | exact ih2 _ _ _ _ _ _ _ _ _ _ _
      | exact posthornref12_Month.mono _ _ _
      | exact posthornref21_has.mono _ _ _
      | exact posthornref21_nth.mono _ _ _ _
      | exact LeO.none _
      | refine LeO.ite ?_ ?_
      | refine LeO.bind ?_ (fun _ => ?_)
    · intro y0 y1 y2 y3 y4 y5 y6 y7 y8 y9 y10
      unfold posthornref21_month.j1
      repeat' first
      | (with_reducible exact ih0 _ _ _ _ _ _ _ _ _ _ _ _)
      | (with_reducible exact ih1 _ _ _ _ _ _ _ _ _ _ _)
      | (with_reducible exact ih2 _ _ _ _ _ _ _ _ _ _ _)
      | (with_reducible exact posthornref12_Month.mono _ _ _)
      | (with_reducible exact posthornref21_has.mono _ _ _)
      | (with_reducible exact posthornref21_nth.mono _ _ _ _)
      | (with_reducible exact LeO.refl _)
      | (with_reducible exact LeO.none _)
      | (with_reducible refine LeO.ite ?_ ?_)
      | (with_reducible refine LeO.bind ?_ (fun _ => ?_))
      | exact ih0 _ _ _ _ _ _ _ _ _ _ _ _
      | exact ih1 _ _ _ _ _ _ _ _ _ _ _
      | exact ih2 _ _ _ _ _ _ _ _ _ _ _
      | exact posthornref12_Month.mono _ _ _
      | exact posthornref21_has.mono _ _ _
      | exact posthornref21_nth.mono _ _ _ _
      | exact LeO.none _
      | refine LeO.ite ?_ ?_
      | refine LeO.bind ?_ (fun _ => ?_)
    · intro y0 y1 y2 y3 y4 y5 y6 y7 y8 y9 y10
      unfold posthornref21_month.l0
      repeat' first
      | (with_reducible exact ih0 _ _ _ _ _ _ _ _ _ _ _ _)
      | (with_reducible exact ih1 _ _ _ _ _ _ _ _ _ _ _)
      | (with_reducible exact ih2 _ _ _ _ _ _ _ _ _ _ _)
      | (with_reducible exact posthornref12_Month.mono _ _ _)
      | (with_reducible exact posthornref21_has.mono _ _ _)
      | (with_reducible exact posthornref21_nth.mono _ _ _ _)
      | (with_reducible exact LeO.refl _)
      | (with_reducible exact LeO.none _)
      | (with_reducible refine LeO.ite ?_ ?_)
      | (with_reducible refine LeO.bind ?_ (fun _ => ?_))
      | exact ih0 _ _ _ _ _ _ _ _ _ _ _ _
      | exact ih1 _ _ _ _ _ _ _ _ _ _ _
      | exact ih2 _ _ _ _ _ _ _ _ _ _ _
      | exact posthornref12_Month.mono _ _ _
      | exact posthornref21_has.mono _ _ _
      | exact posthornref21_nth.mono _ _ _ _
      | exact LeO.none _
      | refine LeO.ite ?_ ?_
      | refine LeO.bind ?_ (fun _ => ?_)
theorem posthornref21_month.mono : ∀ a0 a1 a2 a3 a4 a5 a6 a7 a8 a9 a10 a11 k, LeO (posthornref21_month.f k a0 a1 a2 a3 a4 a5 a6 a7 a8 a9 a10 a11) (posthornref21_month.f (k + 1) a0 a1 a2 a3 a4 a5 a6 a7 a8 a9 a10 a11) := by
  intro a0 a1 a2 a3 a4 a5 a6 a7 a8 a9 a10 a11 k
  obtain ⟨ih0, ih1, ih2⟩ := posthornref21_month.mono_l k
  unfold posthornref21_month.f
  repeat' first
      | (with_reducible exact ih0 _ _ _ _ _ _ _ _ _ _ _ _)
      | (with_reducible exact ih1 _ _ _ _ _ _ _ _ _ _ _)
      | (with_reducible exact ih2 _ _ _ _ _ _ _ _ _ _ _)
      | (with_reducible exact posthornref12_Month.mono _ _ _)
      | (with_reducible exact posthornref21_has.mono _ _ _)
      | (with_reducible exact posthornref21_nth.mono _ _ _ _)
      | (with_reducible exact LeO.refl _)
      | (with_reducible exact LeO.none _)
      | (with_reducible refine LeO.ite ?_ ?_)
      | (with_reducible refine LeO.bind ?_ (fun _ => ?_))
      | exact ih0 _ _ _ _ _ _ _ _ _ _ _ _
      | exact ih1 _ _ _ _ _ _ _ _ _ _ _
      | exact ih2 _ _ _ _ _ _ _ _ _ _ _
      | exact posthornref12_Month.mono _ _ _
      | exact posthornref21_has.mono _ _ _
      | exact posthornref21_nth.mono _ _ _ _
      | exact LeO.none _
      | refine LeO.ite ?_ ?_
      | refine LeO.bind ?_ (fun _ => ?_)
set_option maxHeartbeats 8000000 in
set_option maxRecDepth 100000 in
theorem posthornref21_month.calls (k : Nat) (a0_0 : Int) (a0_1 : Int) (a0_2 : Int) (a0_3 : Int) (A0_4 : Option Addr) (c0_4 : Nat) (l0_4 : List Int) (A0_5 : Option Addr) (c0_5 : Nat) (l0_5 : List Int) (A0_6 : Option Addr) (c0_6 : Nat) (l0_6 : List (S60)) (a1 : Int) (a2 : Int) (a3 : Int) (a4 : Int) (a5 : Int) (r : Bool) (w : World) (hr0_4 : Kd.C (Kd.int .i64) w A0_4 l0_4.length l0_4) (hc0_4 : l0_4.length ≤ c0_4) (hr0_5 : Kd.C (Kd.int .i64) w A0_5 l0_5.length l0_5) (hc0_5 : l0_5.length ≤ c0_5) (hr0_6 : Kd.C k60 w A0_6 l0_6.length l0_6) (hc0_6 : l0_6.length ≤ c0_6) (h : posthornref21_month.f k a0_0 a0_1 a0_2 a0_3 l0_4 l0_5 l0_6 a1 a2 a3 a4 a5 = some r) :
    Calls Tryz.prog 64 #[.agg #[.int .i64 a0_0, .int .i64 a0_1, .int .i64 a0_2, .int .i64 a0_3, .slice A0_4 l0_4.length c0_4, .slice A0_5 l0_5.length c0_5, .slice A0_6 l0_6.length c0_6], .int .i64 a1, .int .i64 a2, .int .i64 a3, .int .i64 a4, .int .i64 a5] w fun e w' => e = .returned (.bool r) ∧ Below w.heap.size w w' := by
  have hu34 := Tryz.underlying34
  have HR0_4 := Aside0.mk hr0_4
  have HC0_4 := Aside0.mk hc0_4
  clear hr0_4 hc0_4
  have HR0_5 := Aside0.mk hr0_5
  have HC0_5 := Aside0.mk hc0_5
  clear hr0_5 hc0_5
  have HR0_6 := Aside0.mk hr0_6
  have HC0_6 := Aside0.mk hc0_6
  clear hr0_6 hc0_6
  have HB := Aside0.mk (Below.refl w.heap.size w)
  have H : ((posthornref12_Month.f k a1 a2).bind fun t332 => (if (l0_5.length : Int) = 0 then (posthornref21_month.j0 k a3 a4 a5 t332 ((l0_6.length : Int) == 0) a0_0 a0_1 a0_2 a0_3 l0_4 l0_5 l0_6) else (posthornref21_month.j0 k a3 a4 a5 t332 false a0_0 a0_1 a0_2 a0_3 l0_4 l0_5 l0_6))) = some r := h
  clear h
  replace H := Option.bind_eq_some_iff.mp H
  obtain ⟨t332, A70, H⟩ := H
  replace H : (if (l0_5.length : Int) = 0 then (posthornref21_month.j0 k a3 a4 a5 t332 ((l0_6.length : Int) == 0) a0_0 a0_1 a0_2 a0_3 l0_4 l0_5 l0_6) else (posthornref21_month.j0 k a3 a4 a5 t332 false a0_0 a0_1 a0_2 a0_3 l0_4 l0_5 l0_6)) = some r := H
  have A7 := Aside0.mk A70
  clear A70
  have HC8 := Aside0.mk H
  clear H
  go_enter Tryz.func64, Tryz.ntmps64
  go_upto_region 2 with (first | ((with_reducible refine gate_dst (N := 6) rfl ?_); (try (refine gate_guard (by rfl) ?_; dsimp only)); refine box_event ?hg (N := 6) ?hd (cs := #[.int .i64 a0_0, .int .i64 a0_1, .int .i64 a0_2, .int .i64 a0_3, .slice A0_4 l0_4.length c0_4, .slice A0_5 l0_5.length c0_5, .slice A0_6 l0_6.length c0_6]) (t := 34) ?hr ?_; (case hd => rfl); (case hg => rfl); (case hr => first | (go_simp; done) | (go_simp; rfl)); intro gb331 hg w9 hbox hb; have n0_ := Aside0.mk (below_step (by repeat (first | (with_reducible first | exact HB.out | apply below_alloc | apply pw_below_drewN | apply below_drew1) | exact HB.out)) hb); have n1_ := Aside0.mk (hbox); have n2_ := Aside0.mk ((by rw [hg]; exact (below_size (by repeat (first | (with_reducible first | exact HB.out | apply below_alloc | apply pw_below_drewN | apply below_drew1) | exact HB.out))) : w.heap.size ≤ gb331)); have n3_ := Aside0.mk ((by rw [hg]; exact (below_size (by repeat (first | (with_reducible first | exact HB.out | apply below_alloc | apply pw_below_drewN | apply below_drew1) | exact HB.out))) : w.heap.size ≤ gb331)); clear HB; have HB := n0_; have BK331 := n1_; have GW331 := n2_; have GE331 := n3_; clear n0_ n1_ n2_ n3_; clear hb hbox hg) | ((with_reducible refine gate_callee (f := 90) rfl ?_); refine goesL_ (some 17) rfl rfl Tryz.func90 (by kernel_rfl) rfl #[.int .i64 a1, .int .i64 a2] rfl (by (try simp only [List.map_toArray, List.map_cons, List.map_nil]); first | done | rfl | (simp only [List.length_drop, List.length_take]; rfl)) ?_; (with_reducible refine (posthornref12_Month.calls k a1 a2 t332 _ A7.out).mono ?_); rintro e w' ⟨rfl, ⟨nd, rfl⟩⟩; refine ⟨_, rfl, ?_⟩))
  (try simp only [Act.put, List.setIfInBounds_toArray, List.set_cons_zero, List.set_cons_succ])
  go_cut [27] (fun v27 wc => ∃ (kq : Nat) (x27_7 : Bool), v27 = .bool x27_7 ∧ Aside0 (posthornref21_month.j0 kq a3 a4 a5 t332 x27_7 a0_0 a0_1 a0_2 a0_3 l0_4 l0_5 l0_6 = some r) ∧ Aside0 (kq ≤ k) ∧ Aside0 (wc.heap[gb331]? = some (.cells #[.int .i64 a0_0, .int .i64 a0_1, .int .i64 a0_2, .int .i64 a0_3, (.slice A0_4 l0_4.length c0_4), (.slice A0_5 l0_5.length c0_5), (.slice A0_6 l0_6.length c0_6)] 34 (0, 0))) ∧ Aside0 (Below w.heap.size w wc))
  case first =>
    have H := HC8.out
    clear HC8
    by_cases c10 : (l0_5.length : Int) = 0
    · rw [if_pos c10] at H
      have c10b0 : ((l0_5.length : Int) == 0) = true := beq_iff_eq.mpr c10
      have c10b1 : ((l0_5.length : Int) != 0) = false := bne_eq_false_iff_eq.mpr c10
      clear c10
      (first | rw [c10b0] | (simp only [i64_w, i32_w]; rw [c10b0]) | skip)
      have H' := Aside0.mk H
      clear H
      have hcz11_0 : w9.cell? ⟨gb331, 0, none⟩ = some (.int .i64 a0_0) := (blk_cell BK331.out 0).trans rfl
      have hcz11_1 : w9.cell? ⟨gb331, 1, none⟩ = some (.int .i64 a0_1) := (blk_cell BK331.out 1).trans rfl
      have hcz11_2 : w9.cell? ⟨gb331, 2, none⟩ = some (.int .i64 a0_2) := (blk_cell BK331.out 2).trans rfl
      have hcz11_3 : w9.cell? ⟨gb331, 3, none⟩ = some (.int .i64 a0_3) := (blk_cell BK331.out 3).trans rfl
      have hcz11_4 : w9.cell? ⟨gb331, 4, none⟩ = some (.slice A0_4 l0_4.length c0_4) := (blk_cell BK331.out 4).trans rfl
      have hcz11_5 : w9.cell? ⟨gb331, 5, none⟩ = some (.slice A0_5 l0_5.length c0_5) := (blk_cell BK331.out 5).trans rfl
      have hcz11_6 : w9.cell? ⟨gb331, 6, none⟩ = some (.slice A0_6 l0_6.length c0_6) := (blk_cell BK331.out 6).trans rfl
      have hfz11_0 := blk_frozen BK331.out 0
      have hfz11_1 := blk_frozen BK331.out 1
      have hfz11_2 := blk_frozen BK331.out 2
      have hfz11_3 := blk_frozen BK331.out 3
      have hfz11_4 := blk_frozen BK331.out 4
      have hfz11_5 := blk_frozen BK331.out 5
      have hfz11_6 := blk_frozen BK331.out 6
      go_wp2
      go_meet
      case rel => exact ⟨_, (((l0_6.length : Int) == 0)), (by first | rfl | (simp; done) | (simp [*]; done)), H', ⟨by first | omega | exact Nat.le_refl _⟩, ⟨by (with_reducible repeat (first | refine blk_drewN ?_ _ | refine blk_drew ?_ | refine blk_alloc ?_ _)); exact BK331.out⟩, ⟨by repeat (first | (with_reducible first | exact HB.out | apply below_alloc | apply pw_below_drewN | apply below_drew1 | refine below_set ?_ GE331.out) | exact HB.out)⟩⟩
    · rw [if_neg c10] at H
      have c10b0 : ((l0_5.length : Int) == 0) = false := beq_eq_false_iff_ne.mpr c10
      have c10b1 : ((l0_5.length : Int) != 0) = true := bne_iff_ne.mpr c10
      have c10b2 : ¬ (l0_5 = []) := fun h_ => c10 (by rw [h_]; rfl)
      (first | rw [c10b0] | (simp only [i64_w, i32_w]; rw [c10b0]) | skip)
      have H' := Aside0.mk H
      clear H
      have hcz12_0 : w9.cell? ⟨gb331, 0, none⟩ = some (.int .i64 a0_0) := (blk_cell BK331.out 0).trans rfl
      have hcz12_1 : w9.cell? ⟨gb331, 1, none⟩ = some (.int .i64 a0_1) := (blk_cell BK331.out 1).trans rfl
      have hcz12_2 : w9.cell? ⟨gb331, 2, none⟩ = some (.int .i64 a0_2) := (blk_cell BK331.out 2).trans rfl
      have hcz12_3 : w9.cell? ⟨gb331, 3, none⟩ = some (.int .i64 a0_3) := (blk_cell BK331.out 3).trans rfl
      have hcz12_4 : w9.cell? ⟨gb331, 4, none⟩ = some (.slice A0_4 l0_4.length c0_4) := (blk_cell BK331.out 4).trans rfl
      have hcz12_5 : w9.cell? ⟨gb331, 5, none⟩ = some (.slice A0_5 l0_5.length c0_5) := (blk_cell BK331.out 5).trans rfl
      have hcz12_6 : w9.cell? ⟨gb331, 6, none⟩ = some (.slice A0_6 l0_6.length c0_6) := (blk_cell BK331.out 6).trans rfl
      have hfz12_0 := blk_frozen BK331.out 0
      have hfz12_1 := blk_frozen BK331.out 1
      have hfz12_2 := blk_frozen BK331.out 2
      have hfz12_3 := blk_frozen BK331.out 3
      have hfz12_4 := blk_frozen BK331.out 4
      have hfz12_5 := blk_frozen BK331.out 5
      have hfz12_6 := blk_frozen BK331.out 6
      go_wp2
      go_meet
      case rel => exact ⟨_, (false), (by first | rfl | (simp; done) | (simp [*]; done)), H', ⟨by first | omega | exact Nat.le_refl _⟩, ⟨by (with_reducible repeat (first | refine blk_drewN ?_ _ | refine blk_drew ?_ | refine blk_alloc ?_ _)); exact BK331.out⟩, ⟨by repeat (first | (with_reducible first | exact HB.out | apply below_alloc | apply pw_below_drewN | apply below_drew1 | refine below_set ?_ GE331.out) | exact HB.out)⟩⟩
  case rest =>
    clear HC8
    try clear c1
    try clear p2
    try clear c6
    try clear c9
    try clear c10
    try clear c10b0
    try clear c10b1
    try clear c10b2
    try clear hcz11_0
    try clear hcz11_1
    try clear hcz11_2
    try clear hcz11_3
    try clear hcz11_4
    try clear hcz11_5
    try clear hcz11_6
    try clear hcz12_0
    try clear hcz12_1
    try clear hcz12_2
    try clear hcz12_3
    try clear hcz12_4
    try clear hcz12_5
    try clear hcz12_6
    try clear hfz11_0
    try clear hfz11_1
    try clear hfz11_2
    try clear hfz11_3
    try clear hfz11_4
    try clear hfz11_5
    try clear hfz11_6
    try clear hfz12_0
    try clear hfz12_1
    try clear hfz12_2
    try clear hfz12_3
    try clear hfz12_4
    try clear hfz12_5
    try clear hfz12_6
    obtain ⟨kq, x27_7, rfl, HA, HJ7, BK331, HB⟩ := hcut
    cases kq with
    | zero => exact absurd HA.out (by simp [posthornref21_month.j0])
    | succ kj7 =>
      have H := HA.out
      clear HA
      simp only [posthornref21_month.j0] at H
      by_cases c13 : x27_7 = true
      · subst c13
        have H1 : (some (a3 == a5)) = some r := by rw [if_pos rfl] at H; exact H
        clear H
        have H := H1
        clear H1
        obtain rfl := Option.some.inj H
        go_wp2
        go_ret
        exact ⟨by first | rfl | (simp [errW_none, errW_some] <;> rfl) | (simp [*, errW_none, errW_some] <;> rfl), by repeat (first | (with_reducible first | exact HB.out | apply below_alloc | apply pw_below_drewN | apply below_drew1 | refine below_set ?_ GE331.out) | exact HB.out)⟩
      · replace c13 := Bool.eq_false_iff.mpr c13
        subst c13
        have H1 : (if (l0_5.length : Int) > 0 then ((posthornref21_has.f kj7 l0_5 a3).bind fun t333 => (if t333 = true then (posthornref21_month.j1 kj7 a3 a4 t332 false a0_0 a0_1 a0_2 a0_3 l0_4 l0_5 l0_6) else ((posthornref21_has.f kj7 l0_5 (wrap64 ((wrap64 (a3 - 1)) - t332))).bind fun t334 => (posthornref21_month.j1 kj7 a3 a4 t332 (!t334) a0_0 a0_1 a0_2 a0_3 l0_4 l0_5 l0_6)))) else (posthornref21_month.j1 kj7 a3 a4 t332 false a0_0 a0_1 a0_2 a0_3 l0_4 l0_5 l0_6)) = some r := by rw [if_neg (show ¬ (false = true) by decide)] at H; exact H
        clear H
        have H := H1
        clear H1
        have HC14 := Aside0.mk H
        clear H
        go_upto_region 4 with (fail)
        go_cut [51] (fun v51 wc => ∃ (kq : Nat) (x51_13 : Bool), v51 = .bool x51_13 ∧ Aside0 (posthornref21_month.j1 kq a3 a4 t332 x51_13 a0_0 a0_1 a0_2 a0_3 l0_4 l0_5 l0_6 = some r) ∧ Aside0 (kq ≤ kj7) ∧ Aside0 (wc.heap[gb331]? = some (.cells #[.int .i64 a0_0, .int .i64 a0_1, .int .i64 a0_2, .int .i64 a0_3, (.slice A0_4 l0_4.length c0_4), (.slice A0_5 l0_5.length c0_5), (.slice A0_6 l0_6.length c0_6)] 34 (0, 0))) ∧ Aside0 (Below w.heap.size w wc))
        case first =>
          have H := HC14.out
          clear HC14
          by_cases c15 : (l0_5.length : Int) > 0
          · rw [if_pos c15] at H
            have c15b0 : decide (0 < (l0_5.length : Int)) = true := decide_eq_true c15
            have c15b1 : decide (0 < l0_5.length) = true := decide_eq_true (by omega)
            clear c15
            (first | rw [c15b0] | (simp only [i64_w, i32_w]; rw [c15b0]) | skip)
            replace H := Option.bind_eq_some_iff.mp H
            obtain ⟨t333, A160, H⟩ := H
            replace H : (if t333 = true then (posthornref21_month.j1 kj7 a3 a4 t332 false a0_0 a0_1 a0_2 a0_3 l0_4 l0_5 l0_6) else ((posthornref21_has.f kj7 l0_5 (wrap64 ((wrap64 (a3 - 1)) - t332))).bind fun t334 => (posthornref21_month.j1 kj7 a3 a4 t332 (!t334) a0_0 a0_1 a0_2 a0_3 l0_4 l0_5 l0_6))) = some r := H
            have A16 := Aside0.mk A160
            clear A160
            by_cases c17 : t333 = true
            · subst c17
              have H1 : (posthornref21_month.j1 kj7 a3 a4 t332 false a0_0 a0_1 a0_2 a0_3 l0_4 l0_5 l0_6) = some r := by rw [if_pos rfl] at H; exact H
              clear H
              have H := H1
              clear H1
              have H' := Aside0.mk H
              clear H
              have hcz18_0 : wc.cell? ⟨gb331, 0, none⟩ = some (.int .i64 a0_0) := (blk_cell BK331.out 0).trans rfl
              have hcz18_1 : wc.cell? ⟨gb331, 1, none⟩ = some (.int .i64 a0_1) := (blk_cell BK331.out 1).trans rfl
              have hcz18_2 : wc.cell? ⟨gb331, 2, none⟩ = some (.int .i64 a0_2) := (blk_cell BK331.out 2).trans rfl
              have hcz18_3 : wc.cell? ⟨gb331, 3, none⟩ = some (.int .i64 a0_3) := (blk_cell BK331.out 3).trans rfl
              have hcz18_4 : wc.cell? ⟨gb331, 4, none⟩ = some (.slice A0_4 l0_4.length c0_4) := (blk_cell BK331.out 4).trans rfl
              have hcz18_5 : wc.cell? ⟨gb331, 5, none⟩ = some (.slice A0_5 l0_5.length c0_5) := (blk_cell BK331.out 5).trans rfl
              have hcz18_6 : wc.cell? ⟨gb331, 6, none⟩ = some (.slice A0_6 l0_6.length c0_6) := (blk_cell BK331.out 6).trans rfl
              have hfz18_0 := blk_frozen BK331.out 0
              have hfz18_1 := blk_frozen BK331.out 1
              have hfz18_2 := blk_frozen BK331.out 2
              have hfz18_3 := blk_frozen BK331.out 3
              have hfz18_4 := blk_frozen BK331.out 4
              have hfz18_5 := blk_frozen BK331.out 5
              have hfz18_6 := blk_frozen BK331.out 6
              go_wp2_with (first | (go_at_call 62; (with_reducible refine (posthornref21_has.calls kj7 _ _ l0_5 a3 true _ ?side1 ?side2 A16.out).mono ?_); (case side1 => repeat (first | exact (Kd.C_below HR0_5.out HB.out) | (with_reducible refine Kd.C_alloc ?_ _) | (with_reducible refine Kd.C_drewN ?_ _) | (with_reducible refine Kd.C_drew ?_))); (case side2 => exact HC0_5.out); rintro e w' ⟨rfl, ⟨nd, rfl⟩⟩))
              go_meet
              case rel => exact ⟨_, (false), (by first | rfl | (simp; done) | (simp [*]; done)), H', ⟨by have := HJ7.out; first | omega | exact Nat.le_refl _⟩, ⟨by (with_reducible repeat (first | refine blk_drewN ?_ _ | refine blk_drew ?_ | refine blk_alloc ?_ _)); exact BK331.out⟩, ⟨by repeat (first | (with_reducible first | exact HB.out | apply below_alloc | apply pw_below_drewN | apply below_drew1 | refine below_set ?_ GE331.out) | exact HB.out)⟩⟩
            · replace c17 := Bool.eq_false_iff.mpr c17
              subst c17
              have H1 : ((posthornref21_has.f kj7 l0_5 (wrap64 ((wrap64 (a3 - 1)) - t332))).bind fun t334 => (posthornref21_month.j1 kj7 a3 a4 t332 (!t334) a0_0 a0_1 a0_2 a0_3 l0_4 l0_5 l0_6)) = some r := by rw [if_neg (show ¬ (false = true) by decide)] at H; exact H
              clear H
              have H := H1
              clear H1
              replace H := Option.bind_eq_some_iff.mp H
              obtain ⟨t334, A190, H⟩ := H
              replace H : (posthornref21_month.j1 kj7 a3 a4 t332 (!t334) a0_0 a0_1 a0_2 a0_3 l0_4 l0_5 l0_6) = some r := H
              have A19 := Aside0.mk A190
              clear A190
              have H' := Aside0.mk H
              clear H
              have hcz20_0 : wc.cell? ⟨gb331, 0, none⟩ = some (.int .i64 a0_0) := (blk_cell BK331.out 0).trans rfl
              have hcz20_1 : wc.cell? ⟨gb331, 1, none⟩ = some (.int .i64 a0_1) := (blk_cell BK331.out 1).trans rfl
              have hcz20_2 : wc.cell? ⟨gb331, 2, none⟩ = some (.int .i64 a0_2) := (blk_cell BK331.out 2).trans rfl
              have hcz20_3 : wc.cell? ⟨gb331, 3, none⟩ = some (.int .i64 a0_3) := (blk_cell BK331.out 3).trans rfl
              have hcz20_4 : wc.cell? ⟨gb331, 4, none⟩ = some (.slice A0_4 l0_4.length c0_4) := (blk_cell BK331.out 4).trans rfl
              have hcz20_5 : wc.cell? ⟨gb331, 5, none⟩ = some (.slice A0_5 l0_5.length c0_5) := (blk_cell BK331.out 5).trans rfl
              have hcz20_6 : wc.cell? ⟨gb331, 6, none⟩ = some (.slice A0_6 l0_6.length c0_6) := (blk_cell BK331.out 6).trans rfl
              have hfz20_0 := blk_frozen BK331.out 0
              have hfz20_1 := blk_frozen BK331.out 1
              have hfz20_2 := blk_frozen BK331.out 2
              have hfz20_3 := blk_frozen BK331.out 3
              have hfz20_4 := blk_frozen BK331.out 4
              have hfz20_5 := blk_frozen BK331.out 5
              have hfz20_6 := blk_frozen BK331.out 6
              go_wp2_with (first | (go_at_call 62; (with_reducible refine (posthornref21_has.calls kj7 _ _ l0_5 a3 false _ ?side1 ?side2 A16.out).mono ?_); (case side1 => repeat (first | exact (Kd.C_below HR0_5.out HB.out) | (with_reducible refine Kd.C_alloc ?_ _) | (with_reducible refine Kd.C_drewN ?_ _) | (with_reducible refine Kd.C_drew ?_))); (case side2 => exact HC0_5.out); rintro e w' ⟨rfl, ⟨nd, rfl⟩⟩) | (go_at_call 62; (with_reducible refine (posthornref21_has.calls kj7 _ _ l0_5 (wrap64 ((wrap64 (a3 - 1)) - t332)) t334 _ ?side1 ?side2 A19.out).mono ?_); (case side1 => repeat (first | exact (Kd.C_below HR0_5.out (by repeat (first | (with_reducible first | exact HB.out | apply below_alloc | apply pw_below_drewN | apply below_drew1 | refine below_set ?_ GE331.out) | exact HB.out))) | (with_reducible refine Kd.C_alloc ?_ _) | (with_reducible refine Kd.C_drewN ?_ _) | (with_reducible refine Kd.C_drew ?_))); (case side2 => exact HC0_5.out); rintro e w' ⟨rfl, ⟨nd, rfl⟩⟩))
              go_meet
              case rel => exact ⟨_, (!t334), (by first | rfl | (simp; done) | (simp [*]; done)), H', ⟨by have := HJ7.out; first | omega | exact Nat.le_refl _⟩, ⟨by (with_reducible repeat (first | refine blk_drewN ?_ _ | refine blk_drew ?_ | refine blk_alloc ?_ _)); exact BK331.out⟩, ⟨by repeat (first | (with_reducible first | exact HB.out | apply below_alloc | apply pw_below_drewN | apply below_drew1 | refine below_set ?_ GE331.out) | exact HB.out)⟩⟩
          · rw [if_neg c15] at H
            have c15b0 : decide (0 < (l0_5.length : Int)) = false := decide_eq_false c15
            have c15b1 : decide (0 < l0_5.length) = false := decide_eq_false (by omega)
            clear c15
            (first | rw [c15b0] | (simp only [i64_w, i32_w]; rw [c15b0]) | skip)
            have H' := Aside0.mk H
            clear H
            have hcz21_0 : wc.cell? ⟨gb331, 0, none⟩ = some (.int .i64 a0_0) := (blk_cell BK331.out 0).trans rfl
            have hcz21_1 : wc.cell? ⟨gb331, 1, none⟩ = some (.int .i64 a0_1) := (blk_cell BK331.out 1).trans rfl
            have hcz21_2 : wc.cell? ⟨gb331, 2, none⟩ = some (.int .i64 a0_2) := (blk_cell BK331.out 2).trans rfl
            have hcz21_3 : wc.cell? ⟨gb331, 3, none⟩ = some (.int .i64 a0_3) := (blk_cell BK331.out 3).trans rfl
            have hcz21_4 : wc.cell? ⟨gb331, 4, none⟩ = some (.slice A0_4 l0_4.length c0_4) := (blk_cell BK331.out 4).trans rfl
            have hcz21_5 : wc.cell? ⟨gb331, 5, none⟩ = some (.slice A0_5 l0_5.length c0_5) := (blk_cell BK331.out 5).trans rfl
            have hcz21_6 : wc.cell? ⟨gb331, 6, none⟩ = some (.slice A0_6 l0_6.length c0_6) := (blk_cell BK331.out 6).trans rfl
            have hfz21_0 := blk_frozen BK331.out 0
            have hfz21_1 := blk_frozen BK331.out 1
            have hfz21_2 := blk_frozen BK331.out 2
            have hfz21_3 := blk_frozen BK331.out 3
            have hfz21_4 := blk_frozen BK331.out 4
            have hfz21_5 := blk_frozen BK331.out 5
            have hfz21_6 := blk_frozen BK331.out 6
            go_wp2
            go_meet
            case rel => exact ⟨_, (false), (by first | rfl | (simp; done) | (simp [*]; done)), H', ⟨by have := HJ7.out; first | omega | exact Nat.le_refl _⟩, ⟨by (with_reducible repeat (first | refine blk_drewN ?_ _ | refine blk_drew ?_ | refine blk_alloc ?_ _)); exact BK331.out⟩, ⟨by repeat (first | (with_reducible first | exact HB.out | apply below_alloc | apply pw_below_drewN | apply below_drew1 | refine below_set ?_ GE331.out) | exact HB.out)⟩⟩
        case rest =>
          clear HC14
          try clear c1
          try clear p2
          try clear c6
          try clear p6
          try clear c9
          try clear c10
          try clear c10b0
          try clear c10b1
          try clear c10b2
          try clear c13
          try clear c15
          try clear c15b0
          try clear c15b1
          try clear c17
          try clear hcz11_0
          try clear hcz11_1
          try clear hcz11_2
          try clear hcz11_3
          try clear hcz11_4
          try clear hcz11_5
          try clear hcz11_6
          try clear hcz12_0
          try clear hcz12_1
          try clear hcz12_2
          try clear hcz12_3
          try clear hcz12_4
          try clear hcz12_5
          try clear hcz12_6
          try clear hcz18_0
          try clear hcz18_1
          try clear hcz18_2
          try clear hcz18_3
          try clear hcz18_4
          try clear hcz18_5
          try clear hcz18_6
          try clear hcz20_0
          try clear hcz20_1
          try clear hcz20_2
          try clear hcz20_3
          try clear hcz20_4
          try clear hcz20_5
          try clear hcz20_6
          try clear hcz21_0
          try clear hcz21_1
          try clear hcz21_2
          try clear hcz21_3
          try clear hcz21_4
          try clear hcz21_5
          try clear hcz21_6
          try clear hfz11_0
          try clear hfz11_1
          try clear hfz11_2
          try clear hfz11_3
          try clear hfz11_4
          try clear hfz11_5
          try clear hfz11_6
          try clear hfz12_0
          try clear hfz12_1
          try clear hfz12_2
          try clear hfz12_3
          try clear hfz12_4
          try clear hfz12_5
          try clear hfz12_6
          try clear hfz18_0
          try clear hfz18_1
          try clear hfz18_2
          try clear hfz18_3
          try clear hfz18_4
          try clear hfz18_5
          try clear hfz18_6
          try clear hfz20_0
          try clear hfz20_1
          try clear hfz20_2
          try clear hfz20_3
          try clear hfz20_4
          try clear hfz20_5
          try clear hfz20_6
          try clear hfz21_0
          try clear hfz21_1
          try clear hfz21_2
          try clear hfz21_3
          try clear hfz21_4
          try clear hfz21_5
          try clear hfz21_6
          try clear p2
          obtain ⟨kq, x51_13, rfl, HA, HJ13, BK331, HB⟩ := hcut
          cases kq with
          | zero => exact absurd HA.out (by simp [posthornref21_month.j1])
          | succ kj13 =>
            have H := HA.out
            clear HA
            simp only [posthornref21_month.j1] at H
            by_cases c22 : x51_13 = true
            · subst c22
              have H1 : (some false) = some r := by rw [if_pos rfl] at H; exact H
              clear H
              have H := H1
              clear H1
              obtain rfl := Option.some.inj H
              go_wp2
              go_ret
              exact ⟨by first | rfl | (simp [errW_none, errW_some] <;> rfl) | (simp [*, errW_none, errW_some] <;> rfl), by repeat (first | (with_reducible first | exact HB.out | apply below_alloc | apply pw_below_drewN | apply below_drew1 | refine below_set ?_ GE331.out) | exact HB.out)⟩
            · replace c22 := Bool.eq_false_iff.mpr c22
              subst c22
              have H1 : (posthornref21_month.l0 kj13 a3 a4 t332 0 a0_0 a0_1 a0_2 a0_3 l0_4 l0_5 l0_6) = some r := by rw [if_neg (show ¬ (false = true) by decide)] at H; exact H
              clear H
              have H := H1
              clear H1
              have H' := Aside0.mk H
              clear H
              go_wp2
              go_loopg [14] kj13 (fun kq v14 w' => ∃ (x14_3 : Int), v14 = .int .i64 x14_3 ∧ Aside0 (posthornref21_month.l0 kq a3 a4 t332 x14_3 a0_0 a0_1 a0_2 a0_3 l0_4 l0_5 l0_6 = some r) ∧ Aside0 (kq ≤ kj13) ∧ Aside0 (w'.heap[gb331]? = some (.cells #[.int .i64 a0_0, .int .i64 a0_1, .int .i64 a0_2, .int .i64 a0_3, (.slice A0_4 l0_4.length c0_4), (.slice A0_5 l0_5.length c0_5), (.slice A0_6 l0_6.length c0_6)] 34 (0, 0))) ∧ Aside0 (Below w.heap.size w w'))
              case atStart => exact ⟨(0), (by first | rfl | (simp; done) | (simp [*]; done)), H', ⟨Nat.le_refl _⟩, ⟨by (with_reducible repeat (first | refine blk_drewN ?_ _ | refine blk_drew ?_ | refine blk_alloc ?_ _)); exact BK331.out⟩, ⟨by repeat (first | (with_reducible first | exact HB.out | apply below_alloc | apply pw_below_drewN | apply below_drew1 | refine below_set ?_ GE331.out) | exact HB.out)⟩⟩
              case round =>
                clear H'
                try clear c1
                try clear c2
                try clear p2
                try clear c6
                try clear p6
                try clear c9
                try clear c10
                try clear c10b0
                try clear c10b1
                try clear c10b2
                try clear c13
                try clear c15
                try clear c15b0
                try clear c15b1
                try clear c17
                try clear c22
                try clear hcz11_0
                try clear hcz11_1
                try clear hcz11_2
                try clear hcz11_3
                try clear hcz11_4
                try clear hcz11_5
                try clear hcz11_6
                try clear hcz12_0
                try clear hcz12_1
                try clear hcz12_2
                try clear hcz12_3
                try clear hcz12_4
                try clear hcz12_5
                try clear hcz12_6
                try clear hcz18_0
                try clear hcz18_1
                try clear hcz18_2
                try clear hcz18_3
                try clear hcz18_4
                try clear hcz18_5
                try clear hcz18_6
                try clear hcz20_0
                try clear hcz20_1
                try clear hcz20_2
                try clear hcz20_3
                try clear hcz20_4
                try clear hcz20_5
                try clear hcz20_6
                try clear hcz21_0
                try clear hcz21_1
                try clear hcz21_2
                try clear hcz21_3
                try clear hcz21_4
                try clear hcz21_5
                try clear hcz21_6
                try clear hfz11_0
                try clear hfz11_1
                try clear hfz11_2
                try clear hfz11_3
                try clear hfz11_4
                try clear hfz11_5
                try clear hfz11_6
                try clear hfz12_0
                try clear hfz12_1
                try clear hfz12_2
                try clear hfz12_3
                try clear hfz12_4
                try clear hfz12_5
                try clear hfz12_6
                try clear hfz18_0
                try clear hfz18_1
                try clear hfz18_2
                try clear hfz18_3
                try clear hfz18_4
                try clear hfz18_5
                try clear hfz18_6
                try clear hfz20_0
                try clear hfz20_1
                try clear hfz20_2
                try clear hfz20_3
                try clear hfz20_4
                try clear hfz20_5
                try clear hfz20_6
                try clear hfz21_0
                try clear hfz21_1
                try clear hfz21_2
                try clear hfz21_3
                try clear hfz21_4
                try clear hfz21_5
                try clear hfz21_6
                try clear p2
                try clear p6
                obtain ⟨x14_3, rfl, HA, HK3, BK331, HB⟩ := hrel
                cases gk with
                | zero => exact absurd HA.out (by simp [posthornref21_month.l0])
                | succ k3 =>
                  have H := HA.out
                  clear HA
                  simp only [posthornref21_month.l0] at H
                  by_cases c23 : x14_3 < (l0_6.length : Int)
                  · rw [if_pos c23] at H
                    have c23b0 : decide (x14_3 < (l0_6.length : Int)) = true := decide_eq_true c23
                    clear c23
                    by_cases c24 : 0 ≤ x14_3
                    · rw [if_pos c24] at H
                      have c24b0 : decide (0 ≤ x14_3) = true := decide_eq_true c24
                      clear c24
                      by_cases c25 : ((rd_T60 l0_6 x14_3).f0) = a4
                      · rw [if_pos c25] at H
                        have c25b0 : (((rd_T60 l0_6 x14_3).f0) == a4) = true := beq_iff_eq.mpr c25
                        have c25b1 : (((rd_T60 l0_6 x14_3).f0) != a4) = false := bne_eq_false_iff_eq.mpr c25
                        clear c25
                        replace H := Option.bind_eq_some_iff.mp H
                        obtain ⟨t337, A260, H⟩ := H
                        replace H : (if t337 = true then (some true) else (posthornref21_month.l0 k3 a3 a4 t332 (wrap64 (x14_3 + 1)) a0_0 a0_1 a0_2 a0_3 l0_4 l0_5 l0_6)) = some r := H
                        have A26 := Aside0.mk A260
                        clear A260
                        by_cases c27 : t337 = true
                        · subst c27
                          have H1 : (some true) = some r := by rw [if_pos rfl] at H; exact H
                          clear H
                          have H := H1
                          clear H1
                          obtain rfl := Option.some.inj H
                          have hcz28_0 : wr.cell? ⟨gb331, 0, none⟩ = some (.int .i64 a0_0) := (blk_cell BK331.out 0).trans rfl
                          have hcz28_1 : wr.cell? ⟨gb331, 1, none⟩ = some (.int .i64 a0_1) := (blk_cell BK331.out 1).trans rfl
                          have hcz28_2 : wr.cell? ⟨gb331, 2, none⟩ = some (.int .i64 a0_2) := (blk_cell BK331.out 2).trans rfl
                          have hcz28_3 : wr.cell? ⟨gb331, 3, none⟩ = some (.int .i64 a0_3) := (blk_cell BK331.out 3).trans rfl
                          have hcz28_4 : wr.cell? ⟨gb331, 4, none⟩ = some (.slice A0_4 l0_4.length c0_4) := (blk_cell BK331.out 4).trans rfl
                          have hcz28_5 : wr.cell? ⟨gb331, 5, none⟩ = some (.slice A0_5 l0_5.length c0_5) := (blk_cell BK331.out 5).trans rfl
                          have hcz28_6 : wr.cell? ⟨gb331, 6, none⟩ = some (.slice A0_6 l0_6.length c0_6) := (blk_cell BK331.out 6).trans rfl
                          have hfz28_0 := blk_frozen BK331.out 0
                          have hfz28_1 := blk_frozen BK331.out 1
                          have hfz28_2 := blk_frozen BK331.out 2
                          have hfz28_3 := blk_frozen BK331.out 3
                          have hfz28_4 := blk_frozen BK331.out 4
                          have hfz28_5 := blk_frozen BK331.out 5
                          have hfz28_6 := blk_frozen BK331.out 6
                          have p335 : 0 ≤ (x14_3 : Int) := of_decide_eq_true (by first | (with_reducible assumption) | assumption)
                          have q335 : x14_3 < (l0_6.length : Int) := of_decide_eq_true (by first | (with_reducible assumption) | assumption)
                          obtain ⟨ad335, e335, hx335_0, hx335_1⟩ := at_T60 HR0_6.out x14_3 p335 q335
                          cases e335
                          replace hx335_0 := (HB.out.cell (World.block_lt_of_cell? w _ hx335_0)).trans hx335_0
                          replace hx335_1 := (HB.out.cell (World.block_lt_of_cell? w _ hx335_1)).trans hx335_1
                          replace p335 := eq_true p335
                          replace q335 := eq_true q335
                          have p336 : 0 ≤ (x14_3 : Int) := of_decide_eq_true (by first | (with_reducible assumption) | assumption)
                          have q336 : x14_3 < (l0_6.length : Int) := of_decide_eq_true (by first | (with_reducible assumption) | assumption)
                          obtain ⟨ad336, e336, hx336_0, hx336_1⟩ := at_T60 HR0_6.out x14_3 p336 q336
                          obtain rfl : ad335 = ad336 := (by injection e336)
                          replace hx336_0 := (HB.out.cell (World.block_lt_of_cell? w _ hx336_0)).trans hx336_0
                          replace hx336_1 := (HB.out.cell (World.block_lt_of_cell? w _ hx336_1)).trans hx336_1
                          replace p336 := eq_true p336
                          replace q336 := eq_true q336
                          go_wp2_with (first | (go_at_call 91; (with_reducible refine (posthornref21_nth.calls k3 a3 t332 ((rd_T60 l0_6 x14_3).f1) true _ A26.out).mono ?_); rintro e w' ⟨rfl, ⟨nd, rfl⟩⟩))
                          go_ret
                          exact ⟨by first | rfl | (simp [errW_none, errW_some] <;> rfl) | (simp [*, errW_none, errW_some] <;> rfl), by repeat (first | (with_reducible first | exact HB.out | apply below_alloc | apply pw_below_drewN | apply below_drew1 | refine below_set ?_ GE331.out) | exact HB.out)⟩
                        · replace c27 := Bool.eq_false_iff.mpr c27
                          subst c27
                          have H1 : (posthornref21_month.l0 k3 a3 a4 t332 (wrap64 (x14_3 + 1)) a0_0 a0_1 a0_2 a0_3 l0_4 l0_5 l0_6) = some r := by rw [if_neg (show ¬ (false = true) by decide)] at H; exact H
                          clear H
                          have H := H1
                          clear H1
                          have H' := Aside0.mk H
                          clear H
                          have hcz29_0 : wr.cell? ⟨gb331, 0, none⟩ = some (.int .i64 a0_0) := (blk_cell BK331.out 0).trans rfl
                          have hcz29_1 : wr.cell? ⟨gb331, 1, none⟩ = some (.int .i64 a0_1) := (blk_cell BK331.out 1).trans rfl
                          have hcz29_2 : wr.cell? ⟨gb331, 2, none⟩ = some (.int .i64 a0_2) := (blk_cell BK331.out 2).trans rfl
                          have hcz29_3 : wr.cell? ⟨gb331, 3, none⟩ = some (.int .i64 a0_3) := (blk_cell BK331.out 3).trans rfl
                          have hcz29_4 : wr.cell? ⟨gb331, 4, none⟩ = some (.slice A0_4 l0_4.length c0_4) := (blk_cell BK331.out 4).trans rfl
                          have hcz29_5 : wr.cell? ⟨gb331, 5, none⟩ = some (.slice A0_5 l0_5.length c0_5) := (blk_cell BK331.out 5).trans rfl
                          have hcz29_6 : wr.cell? ⟨gb331, 6, none⟩ = some (.slice A0_6 l0_6.length c0_6) := (blk_cell BK331.out 6).trans rfl
                          have hfz29_0 := blk_frozen BK331.out 0
                          have hfz29_1 := blk_frozen BK331.out 1
                          have hfz29_2 := blk_frozen BK331.out 2
                          have hfz29_3 := blk_frozen BK331.out 3
                          have hfz29_4 := blk_frozen BK331.out 4
                          have hfz29_5 := blk_frozen BK331.out 5
                          have hfz29_6 := blk_frozen BK331.out 6
                          have p335 : 0 ≤ (x14_3 : Int) := of_decide_eq_true (by first | (with_reducible assumption) | assumption)
                          have q335 : x14_3 < (l0_6.length : Int) := of_decide_eq_true (by first | (with_reducible assumption) | assumption)
                          obtain ⟨ad335, e335, hx335_0, hx335_1⟩ := at_T60 HR0_6.out x14_3 p335 q335
                          cases e335
                          replace hx335_0 := (HB.out.cell (World.block_lt_of_cell? w _ hx335_0)).trans hx335_0
                          replace hx335_1 := (HB.out.cell (World.block_lt_of_cell? w _ hx335_1)).trans hx335_1
                          replace p335 := eq_true p335
                          replace q335 := eq_true q335
                          have p336 : 0 ≤ (x14_3 : Int) := of_decide_eq_true (by first | (with_reducible assumption) | assumption)
                          have q336 : x14_3 < (l0_6.length : Int) := of_decide_eq_true (by first | (with_reducible assumption) | assumption)
                          obtain ⟨ad336, e336, hx336_0, hx336_1⟩ := at_T60 HR0_6.out x14_3 p336 q336
                          obtain rfl : ad335 = ad336 := (by injection e336)
                          replace hx336_0 := (HB.out.cell (World.block_lt_of_cell? w _ hx336_0)).trans hx336_0
                          replace hx336_1 := (HB.out.cell (World.block_lt_of_cell? w _ hx336_1)).trans hx336_1
                          replace p336 := eq_true p336
                          replace q336 := eq_true q336
                          go_wp2_with (first | (go_at_call 91; (with_reducible refine (posthornref21_nth.calls k3 a3 t332 ((rd_T60 l0_6 x14_3).f1) false _ A26.out).mono ?_); rintro e w' ⟨rfl, ⟨nd, rfl⟩⟩))
                          go_roundg k3
                          case measure => have := HJ7.out; have := HJ13.out; have := HK3.out; omega
                          case rel => exact ⟨(wrap64 (x14_3 + 1)), (by first | rfl | (simp; done) | (simp [*]; done)), H', ⟨by have := HJ7.out; have := HJ13.out; have := HK3.out; omega⟩, ⟨by (with_reducible repeat (first | refine blk_drewN ?_ _ | refine blk_drew ?_ | refine blk_alloc ?_ _)); exact BK331.out⟩, ⟨by repeat (first | (with_reducible first | exact HB.out | apply below_alloc | apply pw_below_drewN | apply below_drew1 | refine below_set ?_ GE331.out) | exact HB.out)⟩⟩
                      · rw [if_neg c25] at H
                        have c25b0 : (((rd_T60 l0_6 x14_3).f0) == a4) = false := beq_eq_false_iff_ne.mpr c25
                        have c25b1 : (((rd_T60 l0_6 x14_3).f0) != a4) = true := bne_iff_ne.mpr c25
                        have H' := Aside0.mk H
                        clear H
                        have hcz30_0 : wr.cell? ⟨gb331, 0, none⟩ = some (.int .i64 a0_0) := (blk_cell BK331.out 0).trans rfl
                        have hcz30_1 : wr.cell? ⟨gb331, 1, none⟩ = some (.int .i64 a0_1) := (blk_cell BK331.out 1).trans rfl
                        have hcz30_2 : wr.cell? ⟨gb331, 2, none⟩ = some (.int .i64 a0_2) := (blk_cell BK331.out 2).trans rfl
                        have hcz30_3 : wr.cell? ⟨gb331, 3, none⟩ = some (.int .i64 a0_3) := (blk_cell BK331.out 3).trans rfl
                        have hcz30_4 : wr.cell? ⟨gb331, 4, none⟩ = some (.slice A0_4 l0_4.length c0_4) := (blk_cell BK331.out 4).trans rfl
                        have hcz30_5 : wr.cell? ⟨gb331, 5, none⟩ = some (.slice A0_5 l0_5.length c0_5) := (blk_cell BK331.out 5).trans rfl
                        have hcz30_6 : wr.cell? ⟨gb331, 6, none⟩ = some (.slice A0_6 l0_6.length c0_6) := (blk_cell BK331.out 6).trans rfl
                        have hfz30_0 := blk_frozen BK331.out 0
                        have hfz30_1 := blk_frozen BK331.out 1
                        have hfz30_2 := blk_frozen BK331.out 2
                        have hfz30_3 := blk_frozen BK331.out 3
                        have hfz30_4 := blk_frozen BK331.out 4
                        have hfz30_5 := blk_frozen BK331.out 5
                        have hfz30_6 := blk_frozen BK331.out 6
                        have p335 : 0 ≤ (x14_3 : Int) := of_decide_eq_true (by first | (with_reducible assumption) | assumption)
                        have q335 : x14_3 < (l0_6.length : Int) := of_decide_eq_true (by first | (with_reducible assumption) | assumption)
                        obtain ⟨ad335, e335, hx335_0, hx335_1⟩ := at_T60 HR0_6.out x14_3 p335 q335
                        cases e335
                        replace hx335_0 := (HB.out.cell (World.block_lt_of_cell? w _ hx335_0)).trans hx335_0
                        replace hx335_1 := (HB.out.cell (World.block_lt_of_cell? w _ hx335_1)).trans hx335_1
                        replace p335 := eq_true p335
                        replace q335 := eq_true q335
                        go_wp2
                        go_roundg k3
                        case measure => have := HJ7.out; have := HJ13.out; have := HK3.out; omega
                        case rel => exact ⟨(wrap64 (x14_3 + 1)), (by first | rfl | (simp; done) | (simp [*]; done)), H', ⟨by have := HJ7.out; have := HJ13.out; have := HK3.out; omega⟩, ⟨by (with_reducible repeat (first | refine blk_drewN ?_ _ | refine blk_drew ?_ | refine blk_alloc ?_ _)); exact BK331.out⟩, ⟨by repeat (first | (with_reducible first | exact HB.out | apply below_alloc | apply pw_below_drewN | apply below_drew1 | refine below_set ?_ GE331.out) | exact HB.out)⟩⟩
                    · rw [if_neg c24] at H
                      exact absurd H (by simp)
                  · rw [if_neg c23] at H
                    have c23b0 : decide (x14_3 < (l0_6.length : Int)) = false := decide_eq_false c23
                    clear c23
                    obtain rfl := Option.some.inj H
                    have hcz31_0 : wr.cell? ⟨gb331, 0, none⟩ = some (.int .i64 a0_0) := (blk_cell BK331.out 0).trans rfl
                    have hcz31_1 : wr.cell? ⟨gb331, 1, none⟩ = some (.int .i64 a0_1) := (blk_cell BK331.out 1).trans rfl
                    have hcz31_2 : wr.cell? ⟨gb331, 2, none⟩ = some (.int .i64 a0_2) := (blk_cell BK331.out 2).trans rfl
                    have hcz31_3 : wr.cell? ⟨gb331, 3, none⟩ = some (.int .i64 a0_3) := (blk_cell BK331.out 3).trans rfl
                    have hcz31_4 : wr.cell? ⟨gb331, 4, none⟩ = some (.slice A0_4 l0_4.length c0_4) := (blk_cell BK331.out 4).trans rfl
                    have hcz31_5 : wr.cell? ⟨gb331, 5, none⟩ = some (.slice A0_5 l0_5.length c0_5) := (blk_cell BK331.out 5).trans rfl
                    have hcz31_6 : wr.cell? ⟨gb331, 6, none⟩ = some (.slice A0_6 l0_6.length c0_6) := (blk_cell BK331.out 6).trans rfl
                    have hfz31_0 := blk_frozen BK331.out 0
                    have hfz31_1 := blk_frozen BK331.out 1
                    have hfz31_2 := blk_frozen BK331.out 2
                    have hfz31_3 := blk_frozen BK331.out 3
                    have hfz31_4 := blk_frozen BK331.out 4
                    have hfz31_5 := blk_frozen BK331.out 5
                    have hfz31_6 := blk_frozen BK331.out 6
                    go_wp2
                    go_ret
                    exact ⟨by first | rfl | (simp [errW_none, errW_some] <;> rfl) | (simp [*, errW_none, errW_some] <;> rfl), by repeat (first | (with_reducible first | exact HB.out | apply below_alloc | apply pw_below_drewN | apply below_drew1 | refine below_set ?_ GE331.out) | exact HB.out)⟩
end Go.Proofs.YtfbmjonhohebiaaGreatDoor.PRecurExpands
end
