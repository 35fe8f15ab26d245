/- Texts merged: what the law needs, and no more. -/
import Derived.Test.YtfbmjonhohebiaaGreatDoorQwd
import Derived.IntWalk
section
namespace Go.Proofs.YtfbmjonhohebiaaGreatDoor.PRecurExpands
open Go.RowKit Go.Proofs.YtfbmjonhohebiaaGreatDoorW.PrintWords Go.Proofs.YtfbmjonhohebiaaGreatDoorW.PrintLast Go.Proofs.YtfbmjonhohebiaaGreatDoorW.PrintMore
set_option linter.unusedVariables false
set_option linter.unusedSimpArgs false
theorem eqA59 (d : Nat) (w : World) (x0 y0 : Int) (x1 y1 : Int) :
    (Op.equalIn (d + 2) 59 (.agg #[.int .i64 x0, .int .i64 x1]) (.agg #[.int .i64 y0, .int .i64 y1])).run Tryz.prog w = .ok (x0 == y0 && (x1 == y1)) w := by
  refine eqA_of Tryz.underlying59 (by kernel_rfl) ?_
  refine eqf_cons (by rfl) (by go_simp; rfl) (by go_simp; rfl) (by go_simp) ?_
  exact eqf_last (by rfl) (by go_simp; rfl) (by go_simp; rfl) (by go_simp)
end Go.Proofs.YtfbmjonhohebiaaGreatDoor.PRecurExpands
end
section
namespace Go.Proofs.YtfbmjonhohebiaaGreatDoor.PRecurExpands
open Go.RowKit Go.Proofs.YtfbmjonhohebiaaGreatDoorW.PrintWords Go.Proofs.YtfbmjonhohebiaaGreatDoorW.PrintLast Go.Proofs.YtfbmjonhohebiaaGreatDoorW.PrintMore
attribute [local go_sem] max2_int min2_int max_two min_two max_three min_three max_four min_four
set_option linter.unusedVariables false
set_option linter.unusedSimpArgs false
attribute [local go_sem high] eqA59
def recur_isDay.f (a0 : Int) : Option (Bool) := if a0 ≥ 0 then (some (decide (a0 ≤ 2932896))) else (some false)
set_option maxHeartbeats 8000000 in
set_option maxRecDepth 100000 in
theorem recur_isDay.calls (a0 : Int) (r : Bool) (w : World) (h : recur_isDay.f a0 = some r) :
    Calls Tryz.prog 26 #[.int .i64 a0] w fun e w' => e = .returned (.bool r) ∧ Drawn0 w w' := by
  have H : (if a0 ≥ 0 then (some (decide (a0 ≤ 2932896))) else (some false)) = some r := h
  clear h
  by_cases c2 : a0 ≥ 0
  · rw [if_pos c2] at H
    have c2b0 : decide (0 ≤ a0) = true := decide_eq_true c2
    clear c2
    obtain rfl := Option.some.inj H
    go_enter Tryz.func26, Tryz.ntmps26
    go_wp2
    go_ret
    exact ⟨by first | rfl | (simp; done) | (simp [*]; done), by repeat (first | exact Drawn0.refl _ | apply Drawn0.step)⟩
  · rw [if_neg c2] at H
    have c2b0 : decide (0 ≤ a0) = false := decide_eq_false c2
    clear c2
    obtain rfl := Option.some.inj H
    go_enter Tryz.func26, Tryz.ntmps26
    go_wp2
    go_ret
    exact ⟨by first | rfl | (simp; done) | (simp [*]; done), by repeat (first | exact Drawn0.refl _ | apply Drawn0.step)⟩
def date_Weekday.f (a0 : Int) : Option (Int × Int) := if a0 < 0 then (some (0, 110)) else (if a0 > 2932896 then (some (0, 110)) else (some (Int.tmod (wrap64 (a0 + 3)) 7, 0)))
set_option maxHeartbeats 8000000 in
set_option maxRecDepth 100000 in
theorem date_Weekday.calls (a0 : Int) (r1 : Int) (r2 : Int) (w : World) (h : date_Weekday.f a0 = some (r1, r2)) :
    Calls Tryz.prog 56 #[.int .i64 a0] w fun e w' => e = .returned (.tuple #[.int .i64 r1, .int .i64 r2]) ∧ Drawn0 w w' := by
  have H : (if a0 < 0 then (some (0, 110)) else (if a0 > 2932896 then (some (0, 110)) else (some (Int.tmod (wrap64 (a0 + 3)) 7, 0)))) = some (r1, r2) := h
  clear h
  by_cases c2 : a0 < 0
  · rw [if_pos c2] at H
    have c2b0 : decide (a0 < 0) = true := decide_eq_true c2
    clear c2
    simp only [Option.some.injEq, Prod.mk.injEq] at H
    obtain ⟨rfl, rfl⟩ := H
    go_enter Tryz.func56, Tryz.ntmps56
    go_wp2
    go_ret2
    exact ⟨by first | rfl | (simp; done) | (simp [*]; done), by repeat (first | exact Drawn0.refl _ | apply Drawn0.step)⟩
  · rw [if_neg c2] at H
    have c2b0 : decide (a0 < 0) = false := decide_eq_false c2
    clear c2
    by_cases c3 : a0 > 2932896
    · rw [if_pos c3] at H
      have c3b0 : decide (2932896 < a0) = true := decide_eq_true c3
      clear c3
      simp only [Option.some.injEq, Prod.mk.injEq] at H
      obtain ⟨rfl, rfl⟩ := H
      go_enter Tryz.func56, Tryz.ntmps56
      go_wp2
      go_ret2
      exact ⟨by first | rfl | (simp; done) | (simp [*]; done), by repeat (first | exact Drawn0.refl _ | apply Drawn0.step)⟩
    · rw [if_neg c3] at H
      have c3b0 : decide (2932896 < a0) = false := decide_eq_false c3
      clear c3
      simp only [Option.some.injEq, Prod.mk.injEq] at H
      obtain ⟨rfl, rfl⟩ := H
      go_enter Tryz.func56, Tryz.ntmps56
      go_wp2
      go_ret2
      exact ⟨by first | rfl | (simp; done) | (simp [*]; done), by repeat (first | exact Drawn0.refl _ | apply Drawn0.step)⟩
def slices_Index_int_int.l0 : Nat → List Int → Int → Int → Int → Option (Int)
  | 0, _, _, _, _ => none
  | k + 1, x0, x1, x7, x8 => if x8 < x7 then (if 0 ≤ x8 then (if x8 < (x0.length : Int) then (if x1 = (rd x0 x8) then (some x8) else (slices_Index_int_int.l0 k x0 x1 x7 (wrap64 (x8 + 1)))) else (none)) else (none)) else (some (-1))
def slices_Index_int_int.f (k : Nat) (l0 : List Int) (a1 : Int) : Option (Int) := slices_Index_int_int.l0 k l0 a1 (l0.length : Int) 0
theorem slices_Index_int_int.mono_l : ∀ k, (∀ y0 y1 y2 y3, LeO (slices_Index_int_int.l0 k y0 y1 y2 y3) (slices_Index_int_int.l0 (k + 1) y0 y1 y2 y3))
  | 0 => fun _ _ _ _ r h => by simp [slices_Index_int_int.l0] at h
  | k + 1 => by
    have ih0 := slices_Index_int_int.mono_l k
    · intro y0 y1 y2 y3
      unfold slices_Index_int_int.l0
      repeat' first
      | (with_reducible exact ih0 _ _ _ _)
      | (with_reducible exact LeO.refl _)
      | (with_reducible exact LeO.none _)
      | (with_reducible refine LeO.ite ?_ ?_)
      | (with_reducible refine LeO.bind ?_ (fun _ => ?_))
      | exact ih0 _ _ _ _
      | exact LeO.none _
      | refine LeO.ite ?_ ?_
      | refine LeO.bind ?_ (fun _ => ?_)
theorem slices_Index_int_int.mono : ∀ a0 a1 k, LeO (slices_Index_int_int.f k a0 a1) (slices_Index_int_int.f (k + 1) a0 a1) := by
  intro a0 a1 k
  have ih0 := slices_Index_int_int.mono_l k
  unfold slices_Index_int_int.f
  repeat' first
      | (with_reducible exact ih0 _ _ _ _)
      | (with_reducible exact LeO.refl _)
      | (with_reducible exact LeO.none _)
      | (with_reducible refine LeO.ite ?_ ?_)
      | (with_reducible refine LeO.bind ?_ (fun _ => ?_))
      | exact ih0 _ _ _ _
      | exact LeO.none _
      | refine LeO.ite ?_ ?_
      | refine LeO.bind ?_ (fun _ => ?_)
set_option maxHeartbeats 8000000 in
set_option maxRecDepth 100000 in
theorem slices_Index_int_int.calls (k : Nat) (A0 : Option Addr) (c0 : Nat) (l0 : List Int) (a1 : Int) (r : Int) (w : World) (hr0 : Kd.C (Kd.int .i64) w A0 l0.length l0) (hc0 : l0.length ≤ c0) (h : slices_Index_int_int.f k l0 a1 = some r) :
    Calls Tryz.prog 84 #[.slice A0 l0.length c0, .int .i64 a1] w fun e w' => e = .returned (.int .i64 r) ∧ Drawn0 w w' := by
  have HR0 := Aside0.mk hr0
  have HC0 := Aside0.mk hc0
  clear hr0 hc0
  have H : (slices_Index_int_int.l0 k l0 a1 (l0.length : Int) 0) = some r := h
  clear h
  have H' := Aside0.mk H
  clear H
  go_enter Tryz.func84, Tryz.ntmps84
  go_wp2
  go_loopg [8] k (fun kq v8 w' => ∃ (x8_1 : Int), v8 = .int .i64 x8_1 ∧ Aside0 (slices_Index_int_int.l0 kq l0 a1 (l0.length : Int) x8_1 = some r) ∧ Aside0 (kq ≤ k) ∧ Drawn0 w w')
  case atStart => exact ⟨(0), (by first | rfl | (simp; done) | (simp [*]; done)), H', ⟨Nat.le_refl _⟩, by repeat (first | exact Drawn0.refl _ | apply Drawn0.step)⟩
  case round =>
    clear H'
    try clear p2
    obtain ⟨x8_1, rfl, HA, HK1, ⟨m1, rfl⟩⟩ := hrel
    cases gk with
    | zero => exact absurd HA.out (by simp [slices_Index_int_int.l0])
    | succ k1 =>
      have H := HA.out
      clear HA
      simp only [slices_Index_int_int.l0] at H
      by_cases c3 : x8_1 < (l0.length : Int)
      · rw [if_pos c3] at H
        have c3b0 : decide (x8_1 < (l0.length : Int)) = true := decide_eq_true c3
        clear c3
        by_cases c4 : 0 ≤ x8_1
        · rw [if_pos c4] at H
          have c4b0 : decide (0 ≤ x8_1) = true := decide_eq_true c4
          clear c4
          by_cases c5 : x8_1 < (l0.length : Int)
          · rw [if_pos c5] at H
            have c5b0 : decide (x8_1 < (l0.length : Int)) = true := decide_eq_true c5
            clear c5
            by_cases c6 : a1 = (rd l0 x8_1)
            · rw [if_pos c6] at H
              have c6b0 : (a1 == (rd l0 x8_1)) = true := beq_iff_eq.mpr c6
              have c6b1 : (a1 != (rd l0 x8_1)) = false := bne_eq_false_iff_eq.mpr c6
              clear c6
              obtain rfl := Option.some.inj H
              have p118 : 0 ≤ (x8_1 : Int) := of_decide_eq_true (by first | (with_reducible assumption) | assumption)
              have q118 : x8_1 < (l0.length : Int) := of_decide_eq_true (by first | (with_reducible assumption) | assumption)
              obtain ⟨ad118, e118, hx118_0⟩ := Kd.at_int HR0.out x8_1 p118 q118
              cases e118
              replace p118 := eq_true p118
              replace q118 := eq_true q118
              go_wp2
              go_ret
              exact ⟨by first | rfl | (simp; done) | (simp [*]; done), by repeat (first | exact Drawn0.refl _ | apply Drawn0.step)⟩
            · rw [if_neg c6] at H
              have c6b0 : (a1 == (rd l0 x8_1)) = false := beq_eq_false_iff_ne.mpr c6
              have c6b1 : (a1 != (rd l0 x8_1)) = true := bne_iff_ne.mpr c6
              have H' := Aside0.mk H
              clear H
              have p118 : 0 ≤ (x8_1 : Int) := of_decide_eq_true (by first | (with_reducible assumption) | assumption)
              have q118 : x8_1 < (l0.length : Int) := of_decide_eq_true (by first | (with_reducible assumption) | assumption)
              obtain ⟨ad118, e118, hx118_0⟩ := Kd.at_int HR0.out x8_1 p118 q118
              cases e118
              replace p118 := eq_true p118
              replace q118 := eq_true q118
              go_wp2
              go_roundg k1
              case measure => have := HK1.out; omega
              case rel => exact ⟨(wrap64 (x8_1 + 1)), (by first | rfl | (simp; done) | (simp [*]; done)), H', ⟨by have := HK1.out; omega⟩, by repeat (first | exact Drawn0.refl _ | apply Drawn0.step)⟩
          · rw [if_neg c5] at H
            exact absurd H (by simp)
        · rw [if_neg c4] at H
          exact absurd H (by simp)
      · rw [if_neg c3] at H
        have c3b0 : decide (x8_1 < (l0.length : Int)) = false := decide_eq_false c3
        clear c3
        obtain rfl := Option.some.inj H
        go_wp2
        go_ret
        exact ⟨by first | rfl | (simp; done) | (simp [*]; done), by repeat (first | exact Drawn0.refl _ | apply Drawn0.step)⟩
def slices_Contains_int_int.f (k : Nat) (l0 : List Int) (a1 : Int) : Option (Bool) := (slices_Index_int_int.f k l0 a1).bind fun t119 => (some (decide (t119 ≥ 0)))
theorem slices_Contains_int_int.mono : ∀ a0 a1 k, LeO (slices_Contains_int_int.f k a0 a1) (slices_Contains_int_int.f (k + 1) a0 a1) := by
  intro a0 a1 k
  unfold slices_Contains_int_int.f
  repeat' first
      | (with_reducible exact slices_Index_int_int.mono _ _ _)
      | (with_reducible exact LeO.refl _)
      | (with_reducible exact LeO.none _)
      | (with_reducible refine LeO.ite ?_ ?_)
      | (with_reducible refine LeO.bind ?_ (fun _ => ?_))
      | exact slices_Index_int_int.mono _ _ _
      | exact LeO.none _
      | refine LeO.ite ?_ ?_
      | refine LeO.bind ?_ (fun _ => ?_)
set_option maxHeartbeats 8000000 in
set_option maxRecDepth 100000 in
theorem slices_Contains_int_int.calls (k : Nat) (A0 : Option Addr) (c0 : Nat) (l0 : List Int) (a1 : Int) (r : Bool) (w : World) (hr0 : Kd.C (Kd.int .i64) w A0 l0.length l0) (hc0 : l0.length ≤ c0) (h : slices_Contains_int_int.f k l0 a1 = some r) :
    Calls Tryz.prog 57 #[.slice A0 l0.length c0, .int .i64 a1] w fun e w' => e = .returned (.bool r) ∧ Drawn0 w w' := by
  have HR0 := Aside0.mk hr0
  have HC0 := Aside0.mk hc0
  clear hr0 hc0
  have H : ((slices_Index_int_int.f k l0 a1).bind fun t119 => (some (decide (t119 ≥ 0)))) = some r := h
  clear h
  replace H := Option.bind_eq_some_iff.mp H
  obtain ⟨t119, A30, H⟩ := H
  replace H : (some (decide (t119 ≥ 0))) = some r := H
  have A3 := Aside0.mk A30
  clear A30
  obtain rfl := Option.some.inj H
  go_enter Tryz.func57, Tryz.ntmps57
  go_wp2_with (first | ((with_reducible refine gate_callee (f := 84) rfl ?_); refine goesL_ (some 7) rfl rfl Tryz.func84 (by kernel_rfl) rfl #[.slice A0 l0.length c0, .int .i64 a1] rfl (by (try simp only [List.map_toArray, List.map_cons, List.map_nil]); first | done | rfl | (simp only [List.length_drop, List.length_take]; rfl)) ?_; (with_reducible refine (slices_Index_int_int.calls k _ _ l0 a1 t119 _ ?side1 ?side2 A3.out).mono ?_); (case side1 => repeat (first | exact HR0.out | (with_reducible refine Kd.C_alloc ?_ _) | (with_reducible refine Kd.C_drewN ?_ _) | (with_reducible refine Kd.C_drew ?_))); (case side2 => exact HC0.out); rintro e w' ⟨rfl, ⟨nd, rfl⟩⟩; refine ⟨_, rfl, ?_⟩))
  go_ret
  exact ⟨by first | rfl | (simp; done) | (simp [*]; done), by repeat (first | exact Drawn0.refl _ | apply Drawn0.step)⟩
def recur_Weekday_110.l0 : Nat → List (S59) → Int → Int → Int → Int → Option (Int)
  | 0, _, _, _, _, _ => none
  | k + 1, x0, x7, x8, x121000, x121001 => if x8 < x7 then (if 0 ≤ x8 then (if x8 < (x0.length : Int) then (if (x121000 == ((rd_T59 x0 x8).f0) && (x121001 == ((rd_T59 x0 x8).f1))) = true then (some x8) else (recur_Weekday_110.l0 k x0 x7 (wrap64 (x8 + 1)) x121000 x121001)) else (none)) else (none)) else (some (-1))
def recur_Weekday_110.f (k : Nat) (l0 : List (S59)) (a1_0 : Int) (a1_1 : Int) : Option (Int) := recur_Weekday_110.l0 k l0 (l0.length : Int) 0 a1_0 a1_1
theorem recur_Weekday_110.mono_l : ∀ k, (∀ y0 y1 y2 y3 y4, LeO (recur_Weekday_110.l0 k y0 y1 y2 y3 y4) (recur_Weekday_110.l0 (k + 1) y0 y1 y2 y3 y4))
  | 0 => fun _ _ _ _ _ r h => by simp [recur_Weekday_110.l0] at h
  | k + 1 => by
    have ih0 := recur_Weekday_110.mono_l k
    · intro y0 y1 y2 y3 y4
      unfold recur_Weekday_110.l0
      repeat' first
      | (with_reducible exact ih0 _ _ _ _ _)
      | (with_reducible exact LeO.refl _)
      | (with_reducible exact LeO.none _)
      | (with_reducible refine LeO.ite ?_ ?_)
      | (with_reducible refine LeO.bind ?_ (fun _ => ?_))
      | exact ih0 _ _ _ _ _
      | exact LeO.none _
      | refine LeO.ite ?_ ?_
      | refine LeO.bind ?_ (fun _ => ?_)
theorem recur_Weekday_110.mono : ∀ a0 a1 a2 k, LeO (recur_Weekday_110.f k a0 a1 a2) (recur_Weekday_110.f (k + 1) a0 a1 a2) := by
  intro a0 a1 a2 k
  have ih0 := recur_Weekday_110.mono_l k
  unfold recur_Weekday_110.f
  repeat' first
      | (with_reducible exact ih0 _ _ _ _ _)
      | (with_reducible exact LeO.refl _)
      | (with_reducible exact LeO.none _)
      | (with_reducible refine LeO.ite ?_ ?_)
      | (with_reducible refine LeO.bind ?_ (fun _ => ?_))
      | exact ih0 _ _ _ _ _
      | exact LeO.none _
      | refine LeO.ite ?_ ?_
      | refine LeO.bind ?_ (fun _ => ?_)
set_option maxHeartbeats 8000000 in
set_option maxRecDepth 100000 in
theorem recur_Weekday_110.calls (k : Nat) (A0 : Option Addr) (c0 : Nat) (l0 : List (S59)) (a1_0 : Int) (a1_1 : Int) (r : Int) (w : World) (hr0 : Kd.C k59 w A0 l0.length l0) (hc0 : l0.length ≤ c0) (h : recur_Weekday_110.f k l0 a1_0 a1_1 = some r) :
    Calls Tryz.prog 110 #[.slice A0 l0.length c0, .agg #[.int .i64 a1_0, .int .i64 a1_1]] w fun e w' => e = .returned (.int .i64 r) ∧ Below w.heap.size w w' := by
  have hu59 := Tryz.underlying59
  have HR0 := Aside0.mk hr0
  have HC0 := Aside0.mk hc0
  clear hr0 hc0
  have HB := Aside0.mk (Below.refl w.heap.size w)
  have H : (recur_Weekday_110.l0 k l0 (l0.length : Int) 0 a1_0 a1_1) = some r := h
  clear h
  have H' := Aside0.mk H
  clear H
  go_enter Tryz.func110, Tryz.ntmps110
  go_wp2_with (first | ((with_reducible refine gate_dst (N := 3) rfl ?_); refine box_event ?hg (N := 3) ?hd (cs := #[.int .i64 a1_0, .int .i64 a1_1]) (t := 59) ?hr ?_; (case hd => rfl); (case hg => rfl); (case hr => first | (go_simp; done) | (go_simp; rfl)); intro gb120 hg w3 hbox hb; have n0_ := Aside0.mk (below_step (by repeat (first | (with_reducible first | exact HB.out | apply below_alloc | apply pw_below_drewN | apply below_drew1) | exact HB.out)) hb); have n1_ := Aside0.mk (hbox); have n2_ := Aside0.mk ((by rw [hg]; exact (below_size (by repeat (first | (with_reducible first | exact HB.out | apply below_alloc | apply pw_below_drewN | apply below_drew1) | exact HB.out))) : w.heap.size ≤ gb120)); have n3_ := Aside0.mk ((by rw [hg]; exact (below_size (by repeat (first | (with_reducible first | exact HB.out | apply below_alloc | apply pw_below_drewN | apply below_drew1) | exact HB.out))) : w.heap.size ≤ gb120)); clear HB; have HB := n0_; have BK120 := n1_; have GW120 := n2_; have GE120 := n3_; clear n0_ n1_ n2_ n3_; clear hb hbox hg))
  repeat (go_quiet (first | ((with_reducible refine gate_dst (N := 3) rfl ?_); refine box_event ?hg (N := 3) ?hd (cs := #[.int .i64 a1_0, .int .i64 a1_1]) (t := 59) ?hr ?_; (case hd => rfl); (case hg => rfl); (case hr => first | (go_simp; done) | (go_simp; rfl)); intro gb120 hg w3 hbox hb; have n0_ := Aside0.mk (below_step (by repeat (first | (with_reducible first | exact HB.out | apply below_alloc | apply pw_below_drewN | apply below_drew1) | exact HB.out)) hb); have n1_ := Aside0.mk (hbox); have n2_ := Aside0.mk ((by rw [hg]; exact (below_size (by repeat (first | (with_reducible first | exact HB.out | apply below_alloc | apply pw_below_drewN | apply below_drew1) | exact HB.out))) : w.heap.size ≤ gb120)); have n3_ := Aside0.mk ((by rw [hg]; exact (below_size (by repeat (first | (with_reducible first | exact HB.out | apply below_alloc | apply pw_below_drewN | apply below_drew1) | exact HB.out))) : w.heap.size ≤ gb120)); clear HB; have HB := n0_; have BK120 := n1_; have GW120 := n2_; have GE120 := n3_; clear n0_ n1_ n2_ n3_; clear hb hbox hg)); try go_wp2_with (first | ((with_reducible refine gate_dst (N := 3) rfl ?_); refine box_event ?hg (N := 3) ?hd (cs := #[.int .i64 a1_0, .int .i64 a1_1]) (t := 59) ?hr ?_; (case hd => rfl); (case hg => rfl); (case hr => first | (go_simp; done) | (go_simp; rfl)); intro gb120 hg w3 hbox hb; have n0_ := Aside0.mk (below_step (by repeat (first | (with_reducible first | exact HB.out | apply below_alloc | apply pw_below_drewN | apply below_drew1) | exact HB.out)) hb); have n1_ := Aside0.mk (hbox); have n2_ := Aside0.mk ((by rw [hg]; exact (below_size (by repeat (first | (with_reducible first | exact HB.out | apply below_alloc | apply pw_below_drewN | apply below_drew1) | exact HB.out))) : w.heap.size ≤ gb120)); have n3_ := Aside0.mk ((by rw [hg]; exact (below_size (by repeat (first | (with_reducible first | exact HB.out | apply below_alloc | apply pw_below_drewN | apply below_drew1) | exact HB.out))) : w.heap.size ≤ gb120)); clear HB; have HB := n0_; have BK120 := n1_; have GW120 := n2_; have GE120 := n3_; clear n0_ n1_ n2_ n3_; clear hb hbox hg)))
  go_loopg [8] k (fun kq v8 w' => ∃ (x8_1 : Int), v8 = .int .i64 x8_1 ∧ Aside0 (recur_Weekday_110.l0 kq l0 (l0.length : Int) x8_1 a1_0 a1_1 = some r) ∧ Aside0 (kq ≤ k) ∧ Aside0 (w'.heap[gb120]? = some (.cells #[.int .i64 a1_0, .int .i64 a1_1] 59 (0, 0))) ∧ Aside0 (Below w.heap.size w w'))
  case atStart => exact ⟨(0), (by first | rfl | (simp; done) | (simp [*]; done)), H', ⟨Nat.le_refl _⟩, ⟨by (with_reducible repeat (first | refine blk_drewN ?_ _ | refine blk_drew ?_ | refine blk_alloc ?_ _)); exact BK120.out⟩, ⟨by repeat (first | (with_reducible first | exact HB.out | apply below_alloc | apply pw_below_drewN | apply below_drew1 | refine below_set ?_ GE120.out) | exact HB.out)⟩⟩
  case round =>
    clear H'
    try clear c1
    try clear p2
    obtain ⟨x8_1, rfl, HA, HK1, BK120, HB⟩ := hrel
    cases gk with
    | zero => exact absurd HA.out (by simp [recur_Weekday_110.l0])
    | succ k1 =>
      have H := HA.out
      clear HA
      simp only [recur_Weekday_110.l0] at H
      by_cases c4 : x8_1 < (l0.length : Int)
      · rw [if_pos c4] at H
        have c4b0 : decide (x8_1 < (l0.length : Int)) = true := decide_eq_true c4
        clear c4
        by_cases c5 : 0 ≤ x8_1
        · rw [if_pos c5] at H
          have c5b0 : decide (0 ≤ x8_1) = true := decide_eq_true c5
          clear c5
          by_cases c6 : x8_1 < (l0.length : Int)
          · rw [if_pos c6] at H
            have c6b0 : decide (x8_1 < (l0.length : Int)) = true := decide_eq_true c6
            clear c6
            by_cases c7 : (a1_0 == ((rd_T59 l0 x8_1).f0) && (a1_1 == ((rd_T59 l0 x8_1).f1))) = true
            · rw [if_pos c7] at H
              have c7b0 : (a1_0 == ((rd_T59 l0 x8_1).f0) && (a1_1 == ((rd_T59 l0 x8_1).f1))) = true := c7
              (try (have c7b1 : decide (a1_0 = ((rd_T59 l0 x8_1).f0) && (a1_1 == ((rd_T59 l0 x8_1).f1))) = true := by simpa using c7))
              (try (have c7b2 : (a1_0 == ((rd_T59 l0 x8_1).f0) && (a1_1 == ((rd_T59 l0 x8_1).f1))) = true := by simpa using c7))
              clear c7
              obtain rfl := Option.some.inj H
              have hcz8_0 : wr.cell? ⟨gb120, 0, none⟩ = some (.int .i64 a1_0) := (blk_cell BK120.out 0).trans rfl
              have hcz8_1 : wr.cell? ⟨gb120, 1, none⟩ = some (.int .i64 a1_1) := (blk_cell BK120.out 1).trans rfl
              have hfz8_0 := blk_frozen BK120.out 0
              have hfz8_1 := blk_frozen BK120.out 1
              have p121 : 0 ≤ (x8_1 : Int) := of_decide_eq_true (by first | (with_reducible assumption) | assumption)
              have q121 : x8_1 < (l0.length : Int) := of_decide_eq_true (by first | (with_reducible assumption) | assumption)
              obtain ⟨ad121, e121, hx121_0, hx121_1⟩ := at_T59 HR0.out x8_1 p121 q121
              cases e121
              replace hx121_0 := (HB.out.cell (World.block_lt_of_cell? w _ hx121_0)).trans hx121_0
              replace hx121_1 := (HB.out.cell (World.block_lt_of_cell? w _ hx121_1)).trans hx121_1
              replace p121 := eq_true p121
              replace q121 := eq_true q121
              go_wp2
              repeat (go_quiet (fail); try go_wp2)
              go_ret
              exact ⟨by first | rfl | (simp [errW_none, errW_some] <;> rfl) | (simp [*, errW_none, errW_some] <;> rfl), by repeat (first | (with_reducible first | exact HB.out | apply below_alloc | apply pw_below_drewN | apply below_drew1 | refine below_set ?_ GE120.out) | exact HB.out)⟩
            · rw [if_neg c7] at H
              have c7b0 : (a1_0 == ((rd_T59 l0 x8_1).f0) && (a1_1 == ((rd_T59 l0 x8_1).f1))) = false := by simpa using c7
              (try (have c7b1 : decide (a1_0 = ((rd_T59 l0 x8_1).f0) && (a1_1 == ((rd_T59 l0 x8_1).f1))) = false := by simpa using c7))
              (try (have c7b2 : (a1_0 == ((rd_T59 l0 x8_1).f0) && (a1_1 == ((rd_T59 l0 x8_1).f1))) = false := by simpa using c7))
              (try (have c7b3 : ¬ (a1_0 = ((rd_T59 l0 x8_1).f0) && (a1_1 == ((rd_T59 l0 x8_1).f1))) := by simpa using c7))
              clear c7
              have H' := Aside0.mk H
              clear H
              have hcz9_0 : wr.cell? ⟨gb120, 0, none⟩ = some (.int .i64 a1_0) := (blk_cell BK120.out 0).trans rfl
              have hcz9_1 : wr.cell? ⟨gb120, 1, none⟩ = some (.int .i64 a1_1) := (blk_cell BK120.out 1).trans rfl
              have hfz9_0 := blk_frozen BK120.out 0
              have hfz9_1 := blk_frozen BK120.out 1
              have p121 : 0 ≤ (x8_1 : Int) := of_decide_eq_true (by first | (with_reducible assumption) | assumption)
              have q121 : x8_1 < (l0.length : Int) := of_decide_eq_true (by first | (with_reducible assumption) | assumption)
              obtain ⟨ad121, e121, hx121_0, hx121_1⟩ := at_T59 HR0.out x8_1 p121 q121
              cases e121
              replace hx121_0 := (HB.out.cell (World.block_lt_of_cell? w _ hx121_0)).trans hx121_0
              replace hx121_1 := (HB.out.cell (World.block_lt_of_cell? w _ hx121_1)).trans hx121_1
              replace p121 := eq_true p121
              replace q121 := eq_true q121
              go_wp2
              repeat (go_quiet (fail); try go_wp2)
              go_roundg k1
              case measure => have := HK1.out; omega
              case rel => exact ⟨(wrap64 (x8_1 + 1)), (by first | rfl | (simp; done) | (simp [*]; done)), H', ⟨by have := HK1.out; omega⟩, ⟨by (with_reducible repeat (first | refine blk_drewN ?_ _ | refine blk_drew ?_ | refine blk_alloc ?_ _)); exact BK120.out⟩, ⟨by repeat (first | (with_reducible first | exact HB.out | apply below_alloc | apply pw_below_drewN | apply below_drew1 | refine below_set ?_ GE120.out) | exact HB.out)⟩⟩
          · rw [if_neg c6] at H
            exact absurd H (by simp)
        · rw [if_neg c5] at H
          exact absurd H (by simp)
      · rw [if_neg c4] at H
        have c4b0 : decide (x8_1 < (l0.length : Int)) = false := decide_eq_false c4
        clear c4
        obtain rfl := Option.some.inj H
        go_wp2
        repeat (go_quiet (fail); try go_wp2)
        go_ret
        exact ⟨by first | rfl | (simp [errW_none, errW_some] <;> rfl) | (simp [*, errW_none, errW_some] <;> rfl), by repeat (first | (with_reducible first | exact HB.out | apply below_alloc | apply pw_below_drewN | apply below_drew1 | refine below_set ?_ GE120.out) | exact HB.out)⟩
def recur_Weekday_85.f (k : Nat) (l0 : List (S59)) (a1_0 : Int) (a1_1 : Int) : Option (Bool) := (recur_Weekday_110.f k l0 a1_0 a1_1).bind fun t123 => (some (decide (t123 ≥ 0)))
theorem recur_Weekday_85.mono : ∀ a0 a1 a2 k, LeO (recur_Weekday_85.f k a0 a1 a2) (recur_Weekday_85.f (k + 1) a0 a1 a2) := by
  intro a0 a1 a2 k
  unfold recur_Weekday_85.f
  repeat' first
      | (with_reducible exact recur_Weekday_110.mono _ _ _ _)
      | (with_reducible exact LeO.refl _)
      | (with_reducible exact LeO.none _)
      | (with_reducible refine LeO.ite ?_ ?_)
      | (with_reducible refine LeO.bind ?_ (fun _ => ?_))
      | exact recur_Weekday_110.mono _ _ _ _
      | exact LeO.none _
      | refine LeO.ite ?_ ?_
      | refine LeO.bind ?_ (fun _ => ?_)
set_option maxHeartbeats 8000000 in
set_option maxRecDepth 100000 in
theorem recur_Weekday_85.calls (k : Nat) (A0 : Option Addr) (c0 : Nat) (l0 : List (S59)) (a1_0 : Int) (a1_1 : Int) (r : Bool) (w : World) (hr0 : Kd.C k59 w A0 l0.length l0) (hc0 : l0.length ≤ c0) (h : recur_Weekday_85.f k l0 a1_0 a1_1 = some r) :
    Calls Tryz.prog 85 #[.slice A0 l0.length c0, .agg #[.int .i64 a1_0, .int .i64 a1_1]] w fun e w' => e = .returned (.bool r) ∧ Below w.heap.size w w' := by
  have hu59 := Tryz.underlying59
  have HR0 := Aside0.mk hr0
  have HC0 := Aside0.mk hc0
  clear hr0 hc0
  have HB := Aside0.mk (Below.refl w.heap.size w)
  have H : ((recur_Weekday_110.f k l0 a1_0 a1_1).bind fun t123 => (some (decide (t123 ≥ 0)))) = some r := h
  clear h
  replace H := Option.bind_eq_some_iff.mp H
  obtain ⟨t123, A30, H⟩ := H
  replace H : (some (decide (t123 ≥ 0))) = some r := H
  have A3 := Aside0.mk A30
  clear A30
  obtain rfl := Option.some.inj H
  go_enter Tryz.func85, Tryz.ntmps85
  go_wp2_with (first | ((with_reducible refine gate_dst (N := 3) rfl ?_); refine box_event ?hg (N := 3) ?hd (cs := #[.int .i64 a1_0, .int .i64 a1_1]) (t := 59) ?hr ?_; (case hd => rfl); (case hg => rfl); (case hr => first | (go_simp; done) | (go_simp; rfl)); intro gb122 hg w4 hbox hb; have n0_ := Aside0.mk (below_step (by repeat (first | (with_reducible first | exact HB.out | apply below_alloc | apply pw_below_drewN | apply below_drew1) | exact HB.out)) hb); have n1_ := Aside0.mk (hbox); have n2_ := Aside0.mk ((by rw [hg]; exact (below_size (by repeat (first | (with_reducible first | exact HB.out | apply below_alloc | apply pw_below_drewN | apply below_drew1) | exact HB.out))) : w.heap.size ≤ gb122)); have n3_ := Aside0.mk ((by rw [hg]; exact (below_size (by repeat (first | (with_reducible first | exact HB.out | apply below_alloc | apply pw_below_drewN | apply below_drew1) | exact HB.out))) : w.heap.size ≤ gb122)); clear HB; have HB := n0_; have BK122 := n1_; have GW122 := n2_; have GE122 := n3_; clear n0_ n1_ n2_ n3_; clear hb hbox hg; have hcz5_0 : w4.cell? ⟨gb122, 0, none⟩ = some (.int .i64 a1_0) := (blk_cell BK122.out 0).trans rfl; have hcz5_1 : w4.cell? ⟨gb122, 1, none⟩ = some (.int .i64 a1_1) := (blk_cell BK122.out 1).trans rfl; have hfz5_0 := blk_frozen BK122.out 0; have hfz5_1 := blk_frozen BK122.out 1) | ((with_reducible refine gate_callee (f := 110) rfl ?_); refine goesL_ (some 7) rfl rfl Tryz.func110 (by kernel_rfl) rfl #[.slice A0 l0.length c0, .agg #[.int .i64 a1_0, .int .i64 a1_1]] rfl (by (try simp only [List.map_toArray, List.map_cons, List.map_nil]); first | done | rfl | (simp only [List.length_drop, List.length_take]; rfl)) ?_; (with_reducible refine (recur_Weekday_110.calls k _ _ l0 a1_0 a1_1 t123 _ ?side1 ?side2 A3.out).mono ?_); (case side1 => repeat (first | exact (Kd.C_below HR0.out HB.out) | (with_reducible refine Kd.C_alloc ?_ _) | (with_reducible refine Kd.C_drewN ?_ _) | (with_reducible refine Kd.C_drew ?_))); (case side2 => exact HC0.out); rintro e w6 ⟨rfl, hb⟩; refine ⟨_, rfl, ?_⟩; have n0_ := Aside0.mk (blk_below (g := gb122) (o := .cells #[.int .i64 a1_0, .int .i64 a1_1] 59 (0, 0)) (by (with_reducible repeat (first | refine blk_drewN ?_ _ | refine blk_drew ?_ | refine blk_alloc ?_ _)); exact BK122.out) hb); have n1_ := Aside0.mk (below_step (by repeat (first | (with_reducible first | exact HB.out | apply below_alloc | apply pw_below_drewN | apply below_drew1 | refine below_set ?_ GE122.out) | exact HB.out)) hb); clear BK122; clear HB; have BK122 := n0_; have HB := n1_; clear n0_ n1_; (try clear hb); (try clear hb2); (try clear hk); (try clear hi)))
  go_ret
  exact ⟨by first | rfl | (simp [errW_none, errW_some] <;> rfl) | (simp [*, errW_none, errW_some] <;> rfl), by repeat (first | (with_reducible first | exact HB.out | apply below_alloc | apply pw_below_drewN | apply below_drew1 | refine below_set ?_ GE122.out) | exact HB.out)⟩
def recur_Rule_on.f (k : Nat) (a0_0 : Int) (a0_1 : Int) (a0_2 : Int) (a0_3 : Int) (l0_4 : List Int) (l0_5 : List Int) (l0_6 : List (S59)) (a1 : Int) : Option (Bool) := if (l0_6.length : Int) = 0 then (some true) else ((recur_Weekday_85.f k l0_6 a1 0).bind fun t125 => (some t125))
theorem recur_Rule_on.mono : ∀ a0 a1 a2 a3 a4 a5 a6 a7 k, LeO (recur_Rule_on.f k a0 a1 a2 a3 a4 a5 a6 a7) (recur_Rule_on.f (k + 1) a0 a1 a2 a3 a4 a5 a6 a7) := by
  intro a0 a1 a2 a3 a4 a5 a6 a7 k
  unfold recur_Rule_on.f
  repeat' first
      | (with_reducible exact recur_Weekday_85.mono _ _ _ _)
      | (with_reducible exact LeO.refl _)
      | (with_reducible exact LeO.none _)
      | (with_reducible refine LeO.ite ?_ ?_)
      | (with_reducible refine LeO.bind ?_ (fun _ => ?_))
      | exact recur_Weekday_85.mono _ _ _ _
      | exact LeO.none _
      | refine LeO.ite ?_ ?_
      | refine LeO.bind ?_ (fun _ => ?_)
set_option maxHeartbeats 8000000 in
set_option maxRecDepth 100000 in
theorem recur_Rule_on.calls (k : Nat) (a0_0 : Int) (a0_1 : Int) (a0_2 : Int) (a0_3 : Int) (A0_4 : Option Addr) (c0_4 : Nat) (l0_4 : List Int) (A0_5 : Option Addr) (c0_5 : Nat) (l0_5 : List Int) (A0_6 : Option Addr) (c0_6 : Nat) (l0_6 : List (S59)) (a1 : Int) (r : Bool) (w : World) (hr0_4 : Kd.C (Kd.int .i64) w A0_4 l0_4.length l0_4) (hc0_4 : l0_4.length ≤ c0_4) (hr0_5 : Kd.C (Kd.int .i64) w A0_5 l0_5.length l0_5) (hc0_5 : l0_5.length ≤ c0_5) (hr0_6 : Kd.C k59 w A0_6 l0_6.length l0_6) (hc0_6 : l0_6.length ≤ c0_6) (h : recur_Rule_on.f k a0_0 a0_1 a0_2 a0_3 l0_4 l0_5 l0_6 a1 = some r) :
    Calls Tryz.prog 58 #[.agg #[.int .i64 a0_0, .int .i64 a0_1, .int .i64 a0_2, .int .i64 a0_3, .slice A0_4 l0_4.length c0_4, .slice A0_5 l0_5.length c0_5, .slice A0_6 l0_6.length c0_6], .int .i64 a1] w fun e w' => e = .returned (.bool r) ∧ Below w.heap.size w w' := by
  have hu25 := Tryz.underlying25
  have hu59 := Tryz.underlying59
  have HR0_4 := Aside0.mk hr0_4
  have HC0_4 := Aside0.mk hc0_4
  clear hr0_4 hc0_4
  have HR0_5 := Aside0.mk hr0_5
  have HC0_5 := Aside0.mk hc0_5
  clear hr0_5 hc0_5
  have HR0_6 := Aside0.mk hr0_6
  have HC0_6 := Aside0.mk hc0_6
  clear hr0_6 hc0_6
  have HB := Aside0.mk (Below.refl w.heap.size w)
  have H : (if (l0_6.length : Int) = 0 then (some true) else ((recur_Weekday_85.f k l0_6 a1 0).bind fun t125 => (some t125))) = some r := h
  clear h
  by_cases c3 : (l0_6.length : Int) = 0
  · rw [if_pos c3] at H
    have c3b0 : ((l0_6.length : Int) == 0) = true := beq_iff_eq.mpr c3
    have c3b1 : ((l0_6.length : Int) != 0) = false := bne_eq_false_iff_eq.mpr c3
    clear c3
    obtain rfl := Option.some.inj H
    go_enter Tryz.func58, Tryz.ntmps58
    go_wp2_with (first | ((with_reducible refine gate_dst (N := 2) rfl ?_); refine box_event ?hg (N := 2) ?hd (cs := #[.int .i64 a0_0, .int .i64 a0_1, .int .i64 a0_2, .int .i64 a0_3, .slice A0_4 l0_4.length c0_4, .slice A0_5 l0_5.length c0_5, .slice A0_6 l0_6.length c0_6]) (t := 25) ?hr ?_; (case hd => rfl); (case hg => rfl); (case hr => first | (go_simp; done) | (go_simp; rfl)); intro gb124 hg w4 hbox hb; have n0_ := Aside0.mk (below_step (by repeat (first | (with_reducible first | exact HB.out | apply below_alloc | apply pw_below_drewN | apply below_drew1) | exact HB.out)) hb); have n1_ := Aside0.mk (hbox); have n2_ := Aside0.mk ((by rw [hg]; exact (below_size (by repeat (first | (with_reducible first | exact HB.out | apply below_alloc | apply pw_below_drewN | apply below_drew1) | exact HB.out))) : w.heap.size ≤ gb124)); have n3_ := Aside0.mk ((by rw [hg]; exact (below_size (by repeat (first | (with_reducible first | exact HB.out | apply below_alloc | apply pw_below_drewN | apply below_drew1) | exact HB.out))) : w.heap.size ≤ gb124)); clear HB; have HB := n0_; have BK124 := n1_; have GW124 := n2_; have GE124 := n3_; clear n0_ n1_ n2_ n3_; clear hb hbox hg; have hcz5_0 : w4.cell? ⟨gb124, 0, none⟩ = some (.int .i64 a0_0) := (blk_cell BK124.out 0).trans rfl; have hcz5_1 : w4.cell? ⟨gb124, 1, none⟩ = some (.int .i64 a0_1) := (blk_cell BK124.out 1).trans rfl; have hcz5_2 : w4.cell? ⟨gb124, 2, none⟩ = some (.int .i64 a0_2) := (blk_cell BK124.out 2).trans rfl; have hcz5_3 : w4.cell? ⟨gb124, 3, none⟩ = some (.int .i64 a0_3) := (blk_cell BK124.out 3).trans rfl; have hcz5_4 : w4.cell? ⟨gb124, 4, none⟩ = some (.slice A0_4 l0_4.length c0_4) := (blk_cell BK124.out 4).trans rfl; have hcz5_5 : w4.cell? ⟨gb124, 5, none⟩ = some (.slice A0_5 l0_5.length c0_5) := (blk_cell BK124.out 5).trans rfl; have hcz5_6 : w4.cell? ⟨gb124, 6, none⟩ = some (.slice A0_6 l0_6.length c0_6) := (blk_cell BK124.out 6).trans rfl; have hfz5_0 := blk_frozen BK124.out 0; have hfz5_1 := blk_frozen BK124.out 1; have hfz5_2 := blk_frozen BK124.out 2; have hfz5_3 := blk_frozen BK124.out 3; have hfz5_4 := blk_frozen BK124.out 4; have hfz5_5 := blk_frozen BK124.out 5; have hfz5_6 := blk_frozen BK124.out 6))
    go_ret
    exact ⟨by first | rfl | (simp [errW_none, errW_some] <;> rfl) | (simp [*, errW_none, errW_some] <;> rfl), by repeat (first | (with_reducible first | exact HB.out | apply below_alloc | apply pw_below_drewN | apply below_drew1 | refine below_set ?_ GE124.out) | exact HB.out)⟩
  · rw [if_neg c3] at H
    have c3b0 : ((l0_6.length : Int) == 0) = false := beq_eq_false_iff_ne.mpr c3
    have c3b1 : ((l0_6.length : Int) != 0) = true := bne_iff_ne.mpr c3
    have c3b2 : ¬ (l0_6 = []) := fun h_ => c3 (by rw [h_]; rfl)
    replace H := Option.bind_eq_some_iff.mp H
    obtain ⟨t125, A60, H⟩ := H
    replace H : (some t125) = some r := H
    have A6 := Aside0.mk A60
    clear A60
    obtain rfl := Option.some.inj H
    go_enter Tryz.func58, Tryz.ntmps58
    go_wp2_with (first | ((with_reducible refine gate_dst (N := 2) rfl ?_); refine box_event ?hg (N := 2) ?hd (cs := #[.int .i64 a0_0, .int .i64 a0_1, .int .i64 a0_2, .int .i64 a0_3, .slice A0_4 l0_4.length c0_4, .slice A0_5 l0_5.length c0_5, .slice A0_6 l0_6.length c0_6]) (t := 25) ?hr ?_; (case hd => rfl); (case hg => rfl); (case hr => first | (go_simp; done) | (go_simp; rfl)); intro gb124 hg w7 hbox hb; have n0_ := Aside0.mk (below_step (by repeat (first | (with_reducible first | exact HB.out | apply below_alloc | apply pw_below_drewN | apply below_drew1) | exact HB.out)) hb); have n1_ := Aside0.mk (hbox); have n2_ := Aside0.mk ((by rw [hg]; exact (below_size (by repeat (first | (with_reducible first | exact HB.out | apply below_alloc | apply pw_below_drewN | apply below_drew1) | exact HB.out))) : w.heap.size ≤ gb124)); have n3_ := Aside0.mk ((by rw [hg]; exact (below_size (by repeat (first | (with_reducible first | exact HB.out | apply below_alloc | apply pw_below_drewN | apply below_drew1) | exact HB.out))) : w.heap.size ≤ gb124)); clear HB; have HB := n0_; have BK124 := n1_; have GW124 := n2_; have GE124 := n3_; clear n0_ n1_ n2_ n3_; clear hb hbox hg; have hcz8_0 : w7.cell? ⟨gb124, 0, none⟩ = some (.int .i64 a0_0) := (blk_cell BK124.out 0).trans rfl; have hcz8_1 : w7.cell? ⟨gb124, 1, none⟩ = some (.int .i64 a0_1) := (blk_cell BK124.out 1).trans rfl; have hcz8_2 : w7.cell? ⟨gb124, 2, none⟩ = some (.int .i64 a0_2) := (blk_cell BK124.out 2).trans rfl; have hcz8_3 : w7.cell? ⟨gb124, 3, none⟩ = some (.int .i64 a0_3) := (blk_cell BK124.out 3).trans rfl; have hcz8_4 : w7.cell? ⟨gb124, 4, none⟩ = some (.slice A0_4 l0_4.length c0_4) := (blk_cell BK124.out 4).trans rfl; have hcz8_5 : w7.cell? ⟨gb124, 5, none⟩ = some (.slice A0_5 l0_5.length c0_5) := (blk_cell BK124.out 5).trans rfl; have hcz8_6 : w7.cell? ⟨gb124, 6, none⟩ = some (.slice A0_6 l0_6.length c0_6) := (blk_cell BK124.out 6).trans rfl; have hfz8_0 := blk_frozen BK124.out 0; have hfz8_1 := blk_frozen BK124.out 1; have hfz8_2 := blk_frozen BK124.out 2; have hfz8_3 := blk_frozen BK124.out 3; have hfz8_4 := blk_frozen BK124.out 4; have hfz8_5 := blk_frozen BK124.out 5; have hfz8_6 := blk_frozen BK124.out 6) | (go_at_call 85; (with_reducible refine (recur_Weekday_85.calls k _ _ l0_6 a1 0 t125 _ ?side1 ?side2 A6.out).mono ?_); (case side1 => repeat (first | exact (Kd.C_below HR0_6.out HB.out) | (with_reducible refine Kd.C_alloc ?_ _) | (with_reducible refine Kd.C_drewN ?_ _) | (with_reducible refine Kd.C_drew ?_))); (case side2 => exact HC0_6.out); rintro e w9 ⟨rfl, hb⟩; have n0_ := Aside0.mk (blk_below (g := gb124) (o := .cells #[.int .i64 a0_0, .int .i64 a0_1, .int .i64 a0_2, .int .i64 a0_3, .slice A0_4 l0_4.length c0_4, .slice A0_5 l0_5.length c0_5, .slice A0_6 l0_6.length c0_6] 25 (0, 0)) (by (with_reducible repeat (first | refine blk_drewN ?_ _ | refine blk_drew ?_ | refine blk_alloc ?_ _)); exact BK124.out) hb); have n1_ := Aside0.mk (below_step (by repeat (first | (with_reducible first | exact HB.out | apply below_alloc | apply pw_below_drewN | apply below_drew1 | refine below_set ?_ GE124.out) | exact HB.out)) hb); clear BK124; clear HB; have BK124 := n0_; have HB := n1_; clear n0_ n1_; (try clear hb); (try clear hb2); (try clear hk); (try clear hi)))
    go_ret
    exact ⟨by first | rfl | (simp [errW_none, errW_some] <;> rfl) | (simp [*, errW_none, errW_some] <;> rfl), by repeat (first | (with_reducible first | exact HB.out | apply below_alloc | apply pw_below_drewN | apply below_drew1 | refine below_set ?_ GE124.out) | exact HB.out)⟩
end Go.Proofs.YtfbmjonhohebiaaGreatDoor.PRecurExpands
end
section
set_option linter.unusedVariables false
set_option linter.unusedSimpArgs false
namespace Go.Proofs.YtfbmjonhohebiaaGreatDoor
open Go.RowKit Go.Proofs.YtfbmjonhohebiaaGreatDoorW.PrintWords Go.Proofs.YtfbmjonhohebiaaGreatDoorW.PrintLast Go.Proofs.YtfbmjonhohebiaaGreatDoorW.PrintMore PRecurExpands
theorem ev_forall {g : Int → Nat → Option Bool} {n : Nat} {P : Nat → Prop} (hend : Ev (g n) true)
    (hyes : ∀ i : Nat, i < n → (∀ j, j < i → P j) → P i → ∀ r, Ev (g ((i : Int) + 1)) r → Ev (g i) r) (hno : ∀ i : Nat, i < n → (∀ j, j < i → P j) → ¬ P i → Ev (g i) false) :
    ∃ b, Ev (g 0) b ∧ (b = true ↔ ∀ i, i < n → P i) := by
  have key : ∀ d i : Nat, i + d = n → (∀ j, j < i → P j) → ∃ b, Ev (g i) b ∧ (b = true ↔ ∀ j, i ≤ j → j < n → P j) := by
    intro d
    induction d with
    | zero =>
      intro i hi _
      obtain rfl : i = n := by omega
      exact ⟨true, hend, by simp; intro j h1 h2; omega⟩
    | succ d ih =>
      intro i hi hbe
      by_cases hp : P i
      · obtain ⟨b, h1, hb⟩ := ih (i + 1) (by omega) (fun j hj => if e : j = i then e ▸ hp else hbe j (by omega))
        refine ⟨b, hyes i (by omega) hbe hp _ (by rw [show ((i : Int) + 1) = ((i + 1 : Nat) : Int) by omega]; exact h1), hb.trans ⟨?_, ?_⟩⟩
        · intro h j h1 h2
          by_cases e : j = i
          · subst e; exact hp
          · exact h j (by omega) h2
        · intro h j h1 h2; exact h j (by omega) h2
      · exact ⟨false, hno i (by omega) hbe hp, by simp; exact ⟨i, Nat.le_refl _, by omega, hp⟩⟩
  obtain ⟨b, h, hb⟩ := key n 0 (by omega) (fun j hj => by omega)
  exact ⟨b, by simpa using h, by simpa using hb⟩
theorem bool_one {a b : Bool} {P : Prop} (ha : a = true ↔ P) (hb : b = true ↔ P) : a = b := Bool.eq_iff_iff.mpr (ha.trans hb.symm)
theorem wrap64_in {x : Int} (h0 : -9223372036854775808 ≤ x) (h1 : x ≤ 9223372036854775807) : wrap64 x = x := by unfold wrap64; omega
theorem rd_nat (l : List Int) (i : Nat) : rd l (i : Int) = l.getD i 0 := by simp [rd]
theorem rd59_nat (l : List S59) (i : Nat) : rd_T59 l (i : Int) = l.getD i z59 := by simp [rd_T59]
theorem index_int_ev (l : List Int) (a : Int) (hl : l.length ≤ 1000000000) :
    ∃ r : Int, Ev (fun k => slices_Index_int_int.f k l a) r ∧ decide (r ≥ 0) = l.contains a := by
  have key : ∀ d i : Nat, i + d = l.length → ∃ r : Int, Ev (fun k => slices_Index_int_int.l0 k l a (l.length : Int) (i : Int)) r ∧ decide (r ≥ 0) = (l.drop i).contains a := by
    intro d
    induction d with
    | zero =>
      intro i hi
      refine ⟨-1, Ev.step (f := fun _ => some (-1)) (fun k => ?_) (Ev.now _), ?_⟩
      · simp only [slices_Index_int_int.l0]; rw [if_neg (by omega)]
      · rw [List.drop_eq_nil_of_le (by omega)]; rfl
    | succ d ih =>
      intro i hi
      have hd : l.drop i = l.getD i 0 :: l.drop (i + 1) := by
        rw [List.drop_eq_getElem_cons (by omega)]; simp [show i < l.length by omega]
      by_cases e : a = rd l (i : Int)
      · refine ⟨(i : Int), Ev.step (f := fun _ => some (i : Int)) (fun k => ?_) (Ev.now _), ?_⟩
        · simp only [slices_Index_int_int.l0]; rw [if_pos (by omega), if_pos (by omega), if_pos (by omega), if_pos e]
        · rw [hd]; rw [rd_nat] at e; simp [e]
      · obtain ⟨r, hr, hd'⟩ := ih (i + 1) (by omega)
        refine ⟨r, Ev.step (fun k => ?_) hr, ?_⟩
        · simp only [slices_Index_int_int.l0]
          rw [if_pos (by omega), if_pos (by omega), if_pos (by omega), if_neg e, wrap64_in (by omega) (by omega)]
          rfl
        · rw [hd]; rw [rd_nat] at e
          rw [hd', List.contains_cons, beq_eq_false_iff_ne.mpr e, Bool.false_or]
  obtain ⟨r, hr, hd⟩ := key l.length 0 (by omega)
  exact ⟨r, hr, by simpa using hd⟩
theorem contains_int_ev (l : List Int) (a : Int) (hl : l.length ≤ 1000000000) : Ev (fun k => slices_Contains_int_int.f k l a) (l.contains a) := by
  obtain ⟨r, hr, hd⟩ := index_int_ev l a hl
  unfold slices_Contains_int_int.f
  exact Ev.bind hr (by rw [hd]; exact Ev.now _)
theorem index_week_ev (l : List S59) (a b : Int) (hl : l.length ≤ 1000000000) :
    ∃ r : Int, Ev (fun k => recur_Weekday_110.f k l a b) r ∧ decide (r ≥ 0) = l.any (fun x => a == x.f0 && b == x.f1) := by
  have key : ∀ d i : Nat, i + d = l.length → ∃ r : Int, Ev (fun k => recur_Weekday_110.l0 k l (l.length : Int) (i : Int) a b) r ∧ decide (r ≥ 0) = (l.drop i).any (fun x => a == x.f0 && b == x.f1) := by
    intro d
    induction d with
    | zero =>
      intro i hi
      refine ⟨-1, Ev.step (f := fun _ => some (-1)) (fun k => ?_) (Ev.now _), ?_⟩
      · simp only [recur_Weekday_110.l0]; rw [if_neg (by omega)]
      · rw [List.drop_eq_nil_of_le (by omega)]; rfl
    | succ d ih =>
      intro i hi
      have hd : l.drop i = l.getD i z59 :: l.drop (i + 1) := by
        rw [List.drop_eq_getElem_cons (by omega)]; simp [show i < l.length by omega]
      by_cases e : (a == (rd_T59 l (i : Int)).f0 && b == (rd_T59 l (i : Int)).f1) = true
      · refine ⟨(i : Int), Ev.step (f := fun _ => some (i : Int)) (fun k => ?_) (Ev.now _), ?_⟩
        · simp only [recur_Weekday_110.l0]; rw [if_pos (by omega), if_pos (by omega), if_pos (by omega), if_pos e]
        · rw [hd, List.any_cons, ← rd59_nat, e]; simp
      · obtain ⟨r, hr, hd'⟩ := ih (i + 1) (by omega)
        refine ⟨r, Ev.step (fun k => ?_) hr, ?_⟩
        · simp only [recur_Weekday_110.l0]
          rw [if_pos (by omega), if_pos (by omega), if_pos (by omega), if_neg e, wrap64_in (by omega) (by omega)]
          rfl
        · rw [hd, List.any_cons, ← rd59_nat, hd', Bool.eq_false_iff.mpr e, Bool.false_or]
  obtain ⟨r, hr, hd⟩ := key l.length 0 (by omega)
  exact ⟨r, hr, by simpa using hd⟩
def onS (l : List S59) (wd : Int) : Bool := l.isEmpty || l.any (fun x => wd == x.f0 && 0 == x.f1)
theorem on_ev (a0 a1 a2 a3 : Int) (l4 l5 : List Int) (l : List S59) (wd : Int) (hl : l.length ≤ 1000000000) : Ev (fun k => recur_Rule_on.f k a0 a1 a2 a3 l4 l5 l wd) (onS l wd) := by
  unfold recur_Rule_on.f onS
  by_cases h : (l.length : Int) = 0
  · have : l = [] := by
      cases l with
      | nil => rfl
      | cons a b => simp at h; omega
    subst this
    simp only [List.length_nil, Int.ofNat_eq_natCast, Int.natCast_zero, if_true, List.isEmpty_nil, Bool.true_or]
    exact Ev.now _
  · simp only [if_neg h]
    obtain ⟨r, hr, hd⟩ := index_week_ev l wd 0 hl
    have he : l.isEmpty = false := by
      cases l with
      | nil => simp at h
      | cons a b => rfl
    rw [he, Bool.false_or, ← hd]
    exact Ev.bind (by unfold recur_Weekday_85.f; exact Ev.bind hr (Ev.now _)) (Ev.now _)
def risesP (l : List Int) (lo up : Int) (i : Nat) : Prop := lo ≤ l.getD i 0 ∧ l.getD i 0 ≤ up ∧ l.getD i 0 ≠ 0 ∧ (0 < i → l.getD (i - 1) 0 < l.getD i 0)
def RisesP (l : List Int) (lo up : Int) : Prop := ∀ i, i < l.length → risesP l lo up i
theorem rises_ev (l : List Int) (lo up : Int) (hl : l.length ≤ 1000000000) : ∃ b, Ev (fun k => recur_rises.f k l lo up) b ∧ (b = true ↔ RisesP l lo up) := by
  unfold recur_rises.f RisesP
  refine ev_forall (g := fun i k => recur_rises.l0 k l lo up l (l.length : Int) i) ?_ ?_ ?_
  · exact Ev.step (f := fun _ => some true) (fun k => by simp only [recur_rises.l0]; rw [if_neg (by omega)]) (Ev.now _)
  · rintro i hi _ ⟨h1, h2, h3, h4⟩ r hr
    refine Ev.step (fun k => ?_) hr
    simp only [recur_rises.l0]
    rw [if_pos (by omega), if_pos (by omega), if_pos (by omega), rd_nat, if_neg (by omega), if_neg (by omega), if_neg h3]
    by_cases h0 : (i : Int) > 0
    · rw [if_pos h0, wrap64_in (x := (i : Int) - 1) (by omega) (by omega), if_pos (by omega), if_pos (by omega), show (i : Int) - 1 = ((i - 1 : Nat) : Int) by omega, rd_nat, if_neg (by have := h4 (by omega); omega), wrap64_in (by omega) (by omega)]
    · rw [if_neg h0, wrap64_in (by omega) (by omega)]
  · intro i hi _ hn
    refine Ev.step (f := fun _ => some false) (fun k => ?_) (Ev.now _)
    simp only [recur_rises.l0]
    rw [if_pos (by omega), if_pos (by omega), if_pos (by omega), rd_nat]
    by_cases h1 : l.getD i 0 < lo
    · rw [if_pos h1]
    · rw [if_neg h1]
      by_cases h2 : l.getD i 0 > up
      · rw [if_pos h2]
      · rw [if_neg h2]
        by_cases h3 : l.getD i 0 = 0
        · rw [if_pos h3]
        · rw [if_neg h3]
          have h4 : 0 < i ∧ ¬ l.getD (i - 1) 0 < l.getD i 0 := by
            unfold risesP at hn
            refine Classical.byContradiction fun hc => hn ⟨by omega, by omega, h3, fun h => Classical.byContradiction fun hc2 => hc ⟨h, hc2⟩⟩
          rw [if_pos (by omega), wrap64_in (x := (i : Int) - 1) (by omega) (by omega), if_pos (by omega), if_pos (by omega), show (i : Int) - 1 = ((i - 1 : Nat) : Int) by omega, rd_nat, if_pos (by omega)]
theorem Ev.succ {α : Type} {g : Nat → Option α} {r : α} (h : Ev (fun k => g (k + 1)) r) : Ev g r := Ev.step (fun _ => rfl) h
theorem Ev.pos {α : Type} {c : Prop} [Decidable c] {A B : Nat → Option α} {r : α} (hc : c) (h1 : Ev A r) : Ev (fun k => if c then A k else B k) r := by
  simp only [if_pos hc]; exact h1
theorem Ev.neg {α : Type} {c : Prop} [Decidable c] {A B : Nat → Option α} {r : α} (hc : ¬ c) (h1 : Ev B r) : Ev (fun k => if c then A k else B k) r := by
  simp only [if_neg hc]; exact h1
theorem Ev.ite {α : Type} {c : Prop} [Decidable c] {A B : Nat → Option α} {r : α} (h1 : c → Ev A r) (h2 : ¬ c → Ev B r) : Ev (fun k => if c then A k else B k) r := by
  by_cases h : c
  · simp only [if_pos h]; exact h1 h
  · simp only [if_neg h]; exact h2 h
def weekP (l : List S59) (fine : Bool) (i : Nat) : Prop :=
  0 ≤ (l.getD i z59).f0 ∧ (l.getD i z59).f0 ≤ 6 ∧ -5 ≤ (l.getD i z59).f1 ∧ (l.getD i z59).f1 ≤ 5 ∧ (fine = false → (l.getD i z59).f1 = 0) ∧
  (0 < i → ((l.getD (i - 1) z59).f0 < (l.getD i z59).f0 ∨ ((l.getD (i - 1) z59).f0 = (l.getD i z59).f0 ∧ (l.getD (i - 1) z59).f1 < (l.getD i z59).f1)))
def WeekP (l : List S59) (fine : Bool) : Prop := ∀ i, i < l.length → weekP l fine i
theorem right_l0_ev (x3 : Bool) (l : List S59) (a0 a1 a2 a3 : Int) (l4 l5 : List Int) (hl : l.length ≤ 1000000000) :
    ∃ b, Ev (fun k => recur_Right.l0 k x3 l (l.length : Int) 0 a0 a1 a2 a3 l4 l5 l) b ∧ (b = true ↔ WeekP l x3) := by
  unfold WeekP
  refine ev_forall (g := fun i k => recur_Right.l0 k x3 l (l.length : Int) i a0 a1 a2 a3 l4 l5 l) ?_ ?_ ?_
  · exact Ev.step (f := fun _ => some true) (fun k => by simp only [recur_Right.l0]; rw [if_neg (by omega)]) (Ev.now _)
  · rintro i hi hbe ⟨h1, h2, h3, h4, h5, h6⟩ r hr
    refine Ev.step (f := fun k => recur_Right.j4 k x3 (i : Int) l (l.length : Int) (i : Int) false a0 a1 a2 a3 l4 l5 l (l.getD i z59).f0 (l.getD i z59).f1) (fun k => ?_) ?_
    · simp only [recur_Right.l0]
      rw [if_pos (by omega), if_pos (by omega), if_pos (by omega), rd59_nat, if_neg (by omega), if_neg (by omega), if_neg (by omega), if_neg (by omega)]
      cases x3 with
      | true => rw [if_pos rfl]
      | false => rw [if_neg (by decide), h5 rfl]; rfl
    · refine Ev.step (fun k => ?_) hr
      simp only [recur_Right.j4]
      rw [if_neg (by decide)]
      by_cases h0 : (i : Int) > 0
      · obtain ⟨p1, p2, p3, p4, _, _⟩ := hbe (i - 1) (by omega)
        rw [if_pos h0, wrap64_in (x := (i : Int) - 1) (by omega) (by omega), if_pos (by omega), if_pos (by omega), show (i : Int) - 1 = ((i - 1 : Nat) : Int) by omega, rd59_nat]
        unfold recur_order.f
        have h6' := h6 (by omega)
        by_cases e : (l.getD (i - 1) z59).f0 = (l.getD i z59).f0
        · rw [if_pos e]; simp only [Option.bind_some]
          rw [wrap64_in (x := (l.getD (i - 1) z59).f1 - _) (by omega) (by omega), if_neg (by omega), wrap64_in (by omega) (by omega)]
        · rw [if_neg e]; simp only [Option.bind_some]
          rw [wrap64_in (x := (l.getD (i - 1) z59).f0 - _) (by omega) (by omega), if_neg (by omega), wrap64_in (by omega) (by omega)]
      · rw [if_neg h0, wrap64_in (by omega) (by omega)]
  · intro i hi hbe hn
    have mid : ∀ x : Bool, (x = true ∨ (x = false ∧ 0 ≤ (l.getD i z59).f0 ∧ (l.getD i z59).f0 ≤ 6 ∧ -5 ≤ (l.getD i z59).f1 ∧ (l.getD i z59).f1 ≤ 5 ∧ (x3 = false → (l.getD i z59).f1 = 0))) →
        Ev (fun k => recur_Right.j4 k x3 (i : Int) l (l.length : Int) (i : Int) x a0 a1 a2 a3 l4 l5 l (l.getD i z59).f0 (l.getD i z59).f1) false := by
      intro x hx
      refine Ev.step (f := fun _ => some false) (fun k => ?_) (Ev.now _)
      simp only [recur_Right.j4]
      rcases hx with rfl | ⟨rfl, q1, q2, q3, q4, q5⟩
      · rw [if_pos rfl]
      · rw [if_neg (by decide)]
        have h4 : 0 < i ∧ ¬ ((l.getD (i - 1) z59).f0 < (l.getD i z59).f0 ∨ ((l.getD (i - 1) z59).f0 = (l.getD i z59).f0 ∧ (l.getD (i - 1) z59).f1 < (l.getD i z59).f1)) := by
          unfold weekP at hn
          exact Classical.byContradiction fun hc => hn ⟨q1, q2, q3, q4, q5, fun h => Classical.byContradiction fun hc2 => hc ⟨h, hc2⟩⟩
        obtain ⟨h0, h6⟩ := h4
        obtain ⟨p1, p2, p3, p4, _, _⟩ := hbe (i - 1) (by omega)
        rw [if_pos (by omega), wrap64_in (x := (i : Int) - 1) (by omega) (by omega), if_pos (by omega), if_pos (by omega), show (i : Int) - 1 = ((i - 1 : Nat) : Int) by omega, rd59_nat]
        unfold recur_order.f
        by_cases e : (l.getD (i - 1) z59).f0 = (l.getD i z59).f0
        · rw [if_pos e]; simp only [Option.bind_some]
          rw [wrap64_in (x := (l.getD (i - 1) z59).f1 - _) (by omega) (by omega), if_pos (by omega)]
        · rw [if_neg e]; simp only [Option.bind_some]
          rw [wrap64_in (x := (l.getD (i - 1) z59).f0 - _) (by omega) (by omega), if_pos (by omega)]
    refine Ev.succ ?_
    simp only [recur_Right.l0, rd59_nat]
    refine Ev.pos (by omega) (Ev.pos (by omega) (Ev.pos (by omega) ?_))
    refine Ev.ite (fun _ => mid true (.inl rfl)) (fun q1 => Ev.ite (fun _ => mid true (.inl rfl)) (fun q2 => Ev.ite (fun _ => mid true (.inl rfl)) (fun q3 => Ev.ite (fun _ => mid true (.inl rfl)) (fun q4 => Ev.ite (fun q5 => mid false (.inr ⟨rfl, by omega, by omega, by omega, by omega, fun h => by rw [q5] at h; cases h⟩)) (fun q5 => mid ((l.getD i z59).f1 != 0) ?_)))))
    by_cases e : (l.getD i z59).f1 = 0
    · exact .inr ⟨bne_eq_false_iff_eq.mpr e, by omega, by omega, by omega, by omega, fun _ => e⟩
    · exact .inl (bne_iff_ne.mpr e)
def timeP (t : Int) : Prop := 0 ≤ t ∧ t ≤ 253402300799
structure RightP (f i c u : Int) (l4 l5 : List Int) (l6 : List S59) : Prop where
  f0 : 1 ≤ f
  f1 : f ≤ 4
  i0 : 1 ≤ i
  i1 : i ≤ 1000
  c0 : 0 ≤ c
  c1 : c ≤ 10000
  u0 : u = -1 ∨ (timeP u ∧ c = 0)
  m : RisesP l4 1 12
  d : RisesP l5 (-31) 31
  dn : f ≤ 2 → l5 = []
  w : WeekP l6 (decide (3 ≤ f))
theorem right_ev (f i c u : Int) (l4 l5 : List Int) (l6 : List S59) (h4 : l4.length ≤ 1000000000) (h5 : l5.length ≤ 1000000000) (h6 : l6.length ≤ 1000000000) :
    ∃ b, Ev (fun k => recur_Right.f k f i c u l4 l5 l6) b ∧ (b = true ↔ RightP f i c u l4 l5 l6) := by
  classical
  refine ⟨decide (RightP f i c u l4 l5 l6), ?_, by simp⟩
  obtain ⟨b4, e4, p4⟩ := rises_ev l4 1 12 h4
  obtain ⟨b5, e5, p5⟩ := rises_ev l5 (-31) 31 h5
  have no : ∀ {P : Prop} [Decidable P], ¬ P → decide P = false := fun h => decide_eq_false h
  have J2 : ∀ x3 x77 : Bool, (x77 = true → ¬ RightP f i c u l4 l5 l6) → (x77 = false → (RightP f i c u l4 l5 l6 ↔ WeekP l6 x3)) → Ev (fun k => recur_Right.j2 k x3 x77 f i c u l4 l5 l6) (decide (RightP f i c u l4 l5 l6)) := by
    intro x3 x77 h1 h2
    refine Ev.succ ?_
    simp only [recur_Right.j2]
    cases x77 with
    | true => rw [no (h1 rfl)]; exact Ev.pos rfl (Ev.now _)
    | false =>
      obtain ⟨bw, ew, pw⟩ := right_l0_ev x3 l6 f i c u l4 l5 h6
      have : decide (RightP f i c u l4 l5 l6) = bw := by rw [Bool.eq_iff_iff, pw, decide_eq_true_eq, h2 rfl]
      rw [this]
      exact Ev.neg (by decide) ew
  have len5 : ((l5.length : Int) > 0) ↔ l5 ≠ [] := by
    cases l5 with
    | nil => simp
    | cons a b => simp

  have tail : ∀ x3 : Bool, x3 = decide (3 ≤ f) → 1 ≤ f → f ≤ 4 → 1 ≤ i → i ≤ 1000 → 0 ≤ c → c ≤ 10000 → (u = -1 ∨ (timeP u ∧ c = 0)) →
      Ev (fun k => (recur_rises.f k l4 1 12).bind fun t107 => (if t107 = true then ((recur_rises.f k l5 (-31) 31).bind fun t108 => (if t108 = true then (if x3 = true then (recur_Right.j2 k x3 false f i c u l4 l5 l6) else (recur_Right.j2 k x3 (decide ((l5.length : Int) > 0)) f i c u l4 l5 l6)) else (recur_Right.j2 k x3 true f i c u l4 l5 l6))) else (recur_Right.j2 k x3 true f i c u l4 l5 l6))) (decide (RightP f i c u l4 l5 l6)) := by
    intro x3 hx q1 q2 q3 q4 q5 q6 q7
    refine Ev.bind e4 ?_
    refine Ev.ite (fun r4 => ?_) (fun r4 => J2 _ _ (fun _ h => r4 (p4.mpr h.m)) (fun h => by cases h))
    refine Ev.bind e5 ?_
    refine Ev.ite (fun r5 => ?_) (fun r5 => J2 _ _ (fun _ h => r5 (p5.mpr h.d)) (fun h => by cases h))
    refine Ev.ite (fun r3 => J2 _ _ (fun h => by cases h) (fun _ => ?_)) (fun r3 => J2 _ _ (fun h hr => ?_) (fun h => ?_))
    · subst hx
      have := of_decide_eq_true r3
      exact ⟨fun h => h.w, fun h => ⟨q1, q2, q3, q4, q5, q6, q7, p4.mp r4, p5.mp r5, fun h2 => by omega, h⟩⟩
    · subst hx
      have hn := r3
      rw [decide_eq_true_eq] at hn
      exact (len5.mp (of_decide_eq_true h)) (hr.dn (by omega))
    · subst hx
      have hn := of_decide_eq_false h
      exact ⟨fun h => h.w, fun h => ⟨q1, q2, q3, q4, q5, q6, q7, p4.mp r4, p5.mp r5, fun h2 => Classical.byContradiction fun hc => hn (len5.mpr hc), h⟩⟩
  have J1 : ∀ x3 x41 : Bool, x3 = decide (3 ≤ f) → (x41 = true → ¬ RightP f i c u l4 l5 l6) → (x41 = false → 1 ≤ f ∧ f ≤ 4 ∧ 1 ≤ i ∧ i ≤ 1000 ∧ 0 ≤ c ∧ c ≤ 10000) → Ev (fun k => recur_Right.j1 k x3 x41 f i c u l4 l5 l6) (decide (RightP f i c u l4 l5 l6)) := by
    intro x3 x41 hx h1 h2
    refine Ev.succ ?_
    simp only [recur_Right.j1]
    refine Ev.ite (fun h => ?_) (fun h => ?_)
    · rw [no (h1 h)]; exact Ev.now _
    · obtain ⟨q1, q2, q3, q4, q5, q6⟩ := h2 (by simpa using h)
      refine Ev.ite (fun hu => ?_) (fun hu => ?_)
      · exact tail x3 hx q1 q2 q3 q4 q5 q6 (.inl hu)
      · have ht : when_Right.f u = some (decide (timeP u)) := by
          unfold when_Right.f timeP
          by_cases h : u ≥ 0
          · rw [if_pos h]; simp; omega
          · rw [if_neg h]; simp; omega
        rw [ht]
        simp only [Option.bind_some]
        refine Ev.ite (fun r1 => ?_) (fun r1 => J2 _ _ (fun _ h => ?_) (fun h => by cases h))
        · refine Ev.ite (fun r2 => ?_) (fun r2 => J2 _ _ (fun _ h => ?_) (fun h => by cases h))
          · exact tail x3 hx q1 q2 q3 q4 q5 q6 (.inr ⟨of_decide_eq_true r1, r2⟩)
          · rcases h.u0 with h | h
            · exact hu h
            · exact r2 h.2
        · rcases h.u0 with h | h
          · exact hu h
          · exact r1 (decide_eq_true h.1)
  have J0 : ∀ x3 : Bool, (1 ≤ f → f ≤ 4 → x3 = decide (3 ≤ f)) → Ev (fun k => recur_Right.j0 k x3 f i c u l4 l5 l6) (decide (RightP f i c u l4 l5 l6)) := by
    intro x3 hx
    have bad : ¬ RightP f i c u l4 l5 l6 → Ev (fun k => recur_Right.j1 k x3 true f i c u l4 l5 l6) (decide (RightP f i c u l4 l5 l6)) := by
      intro h
      refine Ev.succ ?_
      simp only [recur_Right.j1]
      rw [no h]; exact Ev.pos trivial (Ev.now _)
    refine Ev.succ ?_
    simp only [recur_Right.j0]
    refine Ev.ite (fun h => bad fun r => ?_) (fun s1 => Ev.ite (fun h => bad fun r => ?_) (fun s2 => Ev.ite (fun h => bad fun r => ?_) (fun s3 => Ev.ite (fun h => bad fun r => ?_) (fun s4 => Ev.ite (fun h => bad fun r => ?_) (fun s5 => J1 x3 _ (hx (by omega) (by omega)) (fun h r => ?_) (fun h => ?_))))))
    · have := r.f0; omega
    · have := r.f1; omega
    · have := r.i0; omega
    · have := r.i1; omega
    · have := r.c0; omega
    · have := r.c1; have := of_decide_eq_true h; omega
    · have := of_decide_eq_false h; omega
  unfold recur_Right.f
  refine Ev.ite (fun h => J0 _ (fun _ _ => by subst h; rfl)) (fun h => J0 _ (fun h1 h2 => ?_))
  by_cases e : f = 4
  · subst e; rfl
  · rw [beq_eq_false_iff_ne.mpr e]; symm; rw [decide_eq_false_iff_not]; omega
end Go.Proofs.YtfbmjonhohebiaaGreatDoor
end
section
namespace Go.Proofs.YtfbmjonhohebiaaGreatDoor
open Go.RowKit
theorem ret_bool {a b : Bool} (h : a = b) : Ending.returned (.bool a) = .returned (.bool b) := by rw [h]
theorem ret_int {k : IntKind} {a b : Int} (h : a = b) : Ending.returned (.int k a) = .returned (.int k b) := by rw [h]
set_option maxHeartbeats 400000 in
theorem when_leap (y : Int) (h0 : 0 ≤ y) (h1 : y ≤ 20000) (w : World) :
    Calls Tryz.prog 109 #[.int .i64 y] w fun e w' => e = .returned (.bool (Cal.leap y)) ∧ w = w' := by
  by_cases h4 : y % 4 = 0
  · by_cases h100 : y % 100 = 0
    · go_enter Tryz.func109, Tryz.ntmps109
      go_wp2
      go_ret
      exact ⟨ret_bool (by simp [Cal.leap, h4, h100]; try rfl), rfl⟩
    · go_enter Tryz.func109, Tryz.ntmps109
      go_wp2
      go_ret
      exact ⟨ret_bool (by simp [Cal.leap, h4, h100]; try rfl), rfl⟩
  · go_enter Tryz.func109, Tryz.ntmps109
    go_wp2
    go_ret
    exact ⟨ret_bool (by simp [Cal.leap, h4]; try rfl), rfl⟩
set_option maxHeartbeats 400000 in
theorem when_before (y : Int) (h0 : 1 ≤ y) (h1 : y ≤ 20000) (w : World) :
    Calls Tryz.prog 82 #[.int .i64 y] w fun e w' => e = .returned (.int .i64 (Cal.bef y)) ∧ w = w' := by
  go_enter Tryz.func82, Tryz.ntmps82
  go_wp2
  go_ret
  exact ⟨ret_int (by unfold Cal.bef; omega), rfl⟩
set_option maxHeartbeats 1000000 in
theorem when_month (y m : Int) (h0 : 0 ≤ y) (h1 : y ≤ 20000) (hm0 : 1 ≤ m) (hm1 : m ≤ 12) (w : World) :
    Calls Tryz.prog 83 #[.int .i64 y, .int .i64 m] w fun e w' => e = .returned (.int .i64 (Cal.mlen y m)) ∧ Below w.heap.size w w' := by
  by_cases h2 : m = 2
  · subst h2
    by_cases hl : Cal.leap y = true
    · go_enter Tryz.func83, Tryz.ntmps83
      go_wp2_with (go_at_call 109; refine (when_leap _ h0 h1 _).mono ?_; rintro e w' ⟨rfl, rfl⟩)
      go_ret
      exact ⟨ret_int (by simp [Cal.mlen, hl]), (Below.refl _ _).alloc (Nat.le_refl _) _⟩
    · have hl' : Cal.leap y = false := by simpa using hl
      go_enter Tryz.func83, Tryz.ntmps83
      go_wp2_with (go_at_call 109; refine (when_leap _ h0 h1 _).mono ?_; rintro e w' ⟨rfl, rfl⟩)
      go_ret
      exact ⟨ret_int (by simp [Cal.mlen, hl']), (Below.refl _ _).alloc (Nat.le_refl _) _⟩
  · have h : m = 1 ∨ m = 3 ∨ m = 4 ∨ m = 5 ∨ m = 6 ∨ m = 7 ∨ m = 8 ∨ m = 9 ∨ m = 10 ∨ m = 11 ∨ m = 12 := by omega
    clear hm0 hm1 h2
    rcases h with rfl | rfl | rfl | rfl | rfl | rfl | rfl | rfl | rfl | rfl | rfl <;>
    ( go_enter Tryz.func83, Tryz.ntmps83
      go_wp2
      go_ret
      exact ⟨ret_int (by simp [Cal.mlen]), (Below.refl _ _).alloc (Nat.le_refl _) _⟩)
end Go.Proofs.YtfbmjonhohebiaaGreatDoor
end
section
set_option linter.unusedVariables false
set_option linter.unusedSimpArgs false
namespace Go.Proofs.YtfbmjonhohebiaaGreatDoor
open Go.RowKit
theorem ret2_ii {k k' : IntKind} {a b a' b' : Int} (h : a = b) (h' : a' = b') : Ending.returned (.tuple #[.int k a, .int k' a']) = .returned (.tuple #[.int k b, .int k' b']) := by rw [h, h']
theorem mlen_le31 (y m : Int) : Cal.mlen y m ≤ 31 := (Cal.mlen_bd y m).2
theorem mlen_ge28 (y m : Int) : 28 ≤ Cal.mlen y m := (Cal.mlen_bd y m).1
theorem bef_rng {y : Int} (h0 : 1970 ≤ y) (h1 : y ≤ 10000) : 0 ≤ Cal.bef y ∧ Cal.bef y ≤ 2932897 := by
  have a := Cal.bef_mono h0
  have b := Cal.bef_mono h1
  rw [Cal.bef_1970] at a; rw [Cal.bef_10000] at b
  exact ⟨a, b⟩
theorem cum_zero (y : Int) : Cal.cum y 0 = 0 := by simp [Cal.cum]
set_option maxHeartbeats 2000000 in
theorem when_Days_ok (y d : Int) (m : Nat) (h0 : 1970 ≤ y) (h1 : y ≤ 9999) (hm0 : 1 ≤ m) (hm1 : m ≤ 12) (hd0 : 1 ≤ d) (hd1 : d ≤ Cal.mlen y m) (w : World) :
    Calls Tryz.prog 102 #[.int .i64 y, .int .i64 m, .int .i64 d] w fun e w' => e = .returned (.tuple #[.int .i64 (Cal.bef y + Cal.cum y m + d - 1), .int .i64 0]) ∧ Below w.heap.size w w' := by
  obtain ⟨b0, b1⟩ := bef_rng h0 (by omega)
  have hl := mlen_le31 y m
  go_enter Tryz.func102, Tryz.ntmps102
  go_wp2_with (first
    | (go_at_call 83; refine (when_month y _ (by omega) (by omega) (by omega) (by omega) _).mono ?_; rintro e w1 ⟨rfl, hb1⟩)
    | (go_at_call 82; refine (when_before y (by omega) (by omega) _).mono ?_; rintro e w2 ⟨rfl, rfl⟩))
  go_loopw [8, 41] (fun n i wr => ∃ k : Nat, k ≤ m ∧ i = .int .i64 k ∧ n = .int .i64 (Cal.bef y + d - 1 + Cal.cum y k) ∧ Below w.heap.size w wr) (fun _ i _ => m - (intOf i).toNat)
  case atStart => exact ⟨0, Nat.zero_le _, rfl, by simp [cum_zero], hb1⟩
  case round =>
    obtain ⟨k, hk, rfl, rfl, hbr⟩ := hrel
    clear hb1
    by_cases hlt : k < m
    · by_cases h0k : 0 < k
      · have cs := Cal.cum_succ y k (by omega) (by omega)
        have cb := Cal.cum_bd y k (by omega) (by omega)
        have yb := Cal.ylen_bd y
        have ml := mlen_le31 y k
        have ml0 := mlen_ge28 y k
        have CS := Lib.hid cs; clear cs
        go_wp2_with (go_at_call 83; refine (when_month y _ (by omega) (by omega) (by omega) (by omega) _).mono ?_; rintro e w2 ⟨rfl, hb2⟩)
        go_roundw
        case rel => exact ⟨k + 1, by omega, by go_num, by rw [show ((k + 1 : Nat) : Int) = (k : Int) + 1 by omega, CS.out]; go_num, hbr.trans (hb2.mono hbr.size)⟩
        case measure => simp [intOf]; omega
      · obtain rfl : k = 0 := by omega
        go_wp2
        go_roundw
        case rel => exact ⟨1, by omega, by go_num, by simp [Cal.cum], hbr⟩
        case measure => simp [intOf]; omega
    · obtain rfl : k = m := by omega
      go_wp2
      go_ret2
      exact ⟨ret2_ii (by omega) rfl, hbr⟩
set_option maxHeartbeats 2000000 in

theorem when_Days_over (y d : Int) (m : Nat) (h0 : 1970 ≤ y) (h1 : y ≤ 9999) (hm0 : 1 ≤ m) (hm1 : m ≤ 12) (hd0 : 1 ≤ d) (hd2 : d ≤ 2000000) (hd1 : Cal.mlen y m < d) (w : World) :
    Calls Tryz.prog 102 #[.int .i64 y, .int .i64 m, .int .i64 d] w fun e w' => e = .returned (.tuple #[.int .i64 0, .int .i64 110]) ∧ Below w.heap.size w w' := by
  have hl := mlen_le31 y m
  go_enter Tryz.func102, Tryz.ntmps102
  go_wp2_with (go_at_call 83; refine (when_month y _ (by omega) (by omega) (by omega) (by omega) _).mono ?_; rintro e w1 ⟨rfl, hb1⟩)
  go_ret2
  exact ⟨rfl, hb1⟩
set_option maxHeartbeats 2000000 in
theorem when_Civil (n : Int) (h0 : 0 ≤ n) (h1 : n ≤ 2932896) (w : World) :
    Calls Tryz.prog 55 #[.int .i64 n] w fun e w' => (∃ y m d, Cal.IsCivil n y m d ∧ e = .returned (.tuple #[.int .i64 y, .int .i64 m, .int .i64 d, .int .i64 0])) ∧ Below w.heap.size w w' := by
  have g0 := Cal.bef_guess n h0 h1
  go_enter Tryz.func55, Tryz.ntmps55
  go_wp2
  go_loop [6] (fun t => ∃ y : Int, 1970 ≤ y ∧ y ≤ 9999 ∧ Cal.bef y ≤ n ∧ t = .int .i64 y) (fun t => (9999 - intOf t).toNat)
  case atStart => exact ⟨_, by omega, by omega, g0, rfl⟩
  case round =>
    clear g0
    obtain ⟨y, hy0, hy1, hy2, rfl⟩ := hrel
    by_cases hc : y < 9999 ∧ Cal.bef (y + 1) ≤ n
    · obtain ⟨hlt, hd⟩ := hc
      go_wp2_with (go_at_call 82; refine (when_before _ (by omega) (by omega) _).mono ?_; rintro e w' ⟨rfl, rfl⟩)
      go_round
      case rel => exact ⟨y + 1, by omega, by omega, hd, rfl⟩
      case measure => simp [intOf]; omega
    · have hz : n < Cal.bef (y + 1) := by
        by_cases e : y = 9999
        · subst e; have := Cal.bef_10000; simp at this ⊢; omega
        · omega
      clear hc
      have hs := Cal.bef_succ y
      have hyl := Cal.ylen_bd y
      have hbr := bef_rng hy0 (by omega)
      have c13 := Cal.cum_13 y
      have HS : Hid (Cal.bef (y + 1) = Cal.bef y + Cal.ylen y) := Lib.hid hs
      have H13 := Lib.hid c13
      have hlo : n - Cal.bef y < 367 := by omega
      clear hs c13
      by_cases hlt : y < 9999
      all_goals
        go_wp2_with (go_at_call 82; refine (when_before _ (by omega) (by omega) _).mono ?_; rintro e w' ⟨rfl, rfl⟩)
        go_loopw [7, 8] (fun r t wr => ∃ m : Nat, 1 ≤ m ∧ m ≤ 12 ∧ t = .int .i64 m ∧ 0 ≤ n - Cal.bef y - Cal.cum y m ∧ r = .int .i64 (n - Cal.bef y - Cal.cum y m) ∧ Below w.heap.size w wr) (fun _ t _ => (12 - intOf t).toNat)
        case atStart => exact ⟨1, by omega, by omega, rfl, by simp [Cal.cum]; omega, by simp [Cal.cum], Below.refl _ _⟩
        case round =>
          obtain ⟨m, hm0, hm1, rfl, hr0, rfl, hbl⟩ := hrel
          have cs := Cal.cum_succ y m (by omega) (by omega)
          have CS := Lib.hid cs
          have ml := mlen_le31 y m
          have ml0 := mlen_ge28 y m
          obtain ⟨cb0, cb1⟩ := Cal.cum_bd y m (by omega) (by omega)
          by_cases hc : Cal.mlen y m ≤ n - Cal.bef y - Cal.cum y m
          · have hm : m ≠ 12 := by
              intro e
              subst e
              have h13 : Cal.cum y ((12 : Nat) + 1 : Int) = Cal.cum y 13 := rfl
              have a1 := HS.out
              have a2 := H13.out
              have a3 : ((12 : Nat) : Int) = 12 := rfl
              rw [a3] at cs hc
              rw [show (12 : Int) + 1 = 13 from rfl] at cs
              omega
            have hmlt : m < 12 := by omega
            clear hm cs
            go_wp2_with (go_at_call 83; refine (when_month y _ (by omega) (by omega) (by omega) (by omega) _).mono ?_; rintro e w2 ⟨rfl, hb2⟩)
            rename_i w3 hb3
            go_roundw
            case rel => exact ⟨m + 1, by omega, by omega, by go_num, by rw [show ((m + 1 : Nat) : Int) = (m : Int) + 1 by omega, CS.out]; omega, by rw [show ((m + 1 : Nat) : Int) = (m : Int) + 1 by omega, CS.out]; go_num, (hbl.trans (hb3.mono hbl.size)).trans (hb2.mono (Nat.le_trans hbl.size hb3.size))⟩
            case measure => simp [intOf]; omega
          · have hv : n - Cal.bef y - Cal.cum y m < Cal.mlen y m := by omega
            clear cs hc
            go_wp2_with (go_at_call 83; refine (when_month y _ (by omega) (by omega) (by omega) (by omega) _).mono ?_; rintro e w2 ⟨rfl, hb2⟩)
            refine bodyPost_ret (v := .tuple #[.int .i64 y, .int .i64 m, .int .i64 (n - Cal.bef y - Cal.cum y m + 1), .int .i64 0]) (by simp [results, Tryz.results55, go_sem]) rfl ⟨⟨y, m, _, ⟨by omega, by omega, by omega, by omega, ?_, ?_, ?_⟩, rfl⟩, hbl.trans (hb2.mono hbl.size)⟩ <;> omega
end Go.Proofs.YtfbmjonhohebiaaGreatDoor
end
section
set_option linter.unusedVariables false
set_option linter.unusedSimpArgs false
namespace Go.Proofs.YtfbmjonhohebiaaGreatDoor
open Go.RowKit Go.Proofs.YtfbmjonhohebiaaGreatDoorW.PrintWords Go.Proofs.YtfbmjonhohebiaaGreatDoorW.PrintLast Go.Proofs.YtfbmjonhohebiaaGreatDoorW.PrintMore PRecurExpands
theorem bcell {W w1 : World} (hb : Below W.heap.size W w1) : (∀ b o, b < W.heap.size → w1.cell? ⟨b, o, none⟩ = W.cell? ⟨b, o, none⟩) ∧ (∀ b o, b < W.heap.size → w1.frozen? ⟨b, o, none⟩ = W.frozen? ⟨b, o, none⟩) :=
  ⟨fun b o h => hb.cell (p := ⟨b, o, none⟩) h, fun b o h => hb.frozen (p := ⟨b, o, none⟩) h⟩
set_option maxHeartbeats 2000000 in
theorem recur_length (y : Int) (m : Nat) (h0 : 1970 ≤ y) (h1 : y ≤ 9999) (hm0 : 1 ≤ m) (hm1 : m ≤ 12) (w : World) :
    Calls Tryz.prog 86 #[.int .i64 y, .int .i64 m] w fun e w' => e = .returned (.int .i64 (Cal.mlen y m)) ∧ Below w.heap.size w w' := by
  have ml := mlen_le31 y m
  have ml0 := mlen_ge28 y m
  go_enter Tryz.func86, Tryz.ntmps86
  go_wp2
  go_loopw [5] (fun d wr => ∃ x : Int, 28 ≤ x ∧ x ≤ 31 ∧ Cal.mlen y m ≤ x ∧ d = .int .i64 x ∧ Below w.heap.size w wr) (fun d _ => (intOf d).toNat)
  case atStart => exact ⟨31, by omega, by omega, by omega, rfl, Below.refl _ _⟩
  case round =>
    obtain ⟨x, hx0, hx1, hx2, rfl, hb⟩ := hrel
    by_cases h28 : 28 < x
    · by_cases hlt : Cal.mlen y m < x
      · go_wp2_with (go_at_call 102; refine (when_Days_over y x m h0 h1 hm0 hm1 (by omega) (by omega) hlt _).mono ?_; rintro e w2 ⟨rfl, hb2⟩)
        go_roundw
        case rel => exact ⟨x - 1, by omega, by omega, by omega, rfl, hb.trans (hb2.mono hb.size)⟩
        case measure => simp [intOf]; omega
      · have hle : x ≤ Cal.mlen y m := by omega
        go_wp2_with (go_at_call 102; refine (when_Days_ok y x m h0 h1 hm0 hm1 (by omega) hle _).mono ?_; rintro e w2 ⟨rfl, hb2⟩)
        go_ret
        exact ⟨ret_int (by omega), hb.trans (hb2.mono hb.size)⟩
    · go_wp2
      go_ret
      exact ⟨ret_int (by omega), hb⟩
def fitS (sd sf sb : Int) (x : S59) : Bool := x.f0 == sd && (x.f1 == 0 || x.f1 == sf || x.f1 == sb)
set_option maxHeartbeats 2000000 in
theorem recur_fits (sd sf sb wd wo : Int) (w : World) :
    Calls Tryz.prog 88 #[.agg #[.int .i64 sd, .int .i64 sf, .int .i64 sb], .agg #[.int .i64 wd, .int .i64 wo]] w fun e w' => e = .returned (.bool (fitS sd sf sb ⟨wd, wo⟩)) ∧ Below w.heap.size w w' := by
  have fin : Below w.heap.size w ((w.alloc (.cells #[.int .i64 sd, .int .i64 sf, .int .i64 sb] 121)).alloc (.cells #[.int .i64 wd, .int .i64 wo] 59)) :=
    ((Below.refl _ _).alloc (Nat.le_refl _) _).alloc (by simp) _
  by_cases c1 : (wd == sd) = true
  · by_cases c2 : (wo == 0) = true
    · have hfin : fitS sd sf sb ⟨wd, wo⟩ = true := by simp [fitS, c1, c2]
      have HF := Lib.hid hfin
      clear hfin
      go_enter Tryz.func88, Tryz.ntmps88
      go_wp2
      go_ret
      exact ⟨ret_bool HF.out.symm, fin⟩
    · have c2' : (wo == 0) = false := by simpa using c2
      by_cases c3 : (wo == sf) = true
      · have hfin : fitS sd sf sb ⟨wd, wo⟩ = true := by simp [fitS, c1, c2', c3]
        have HF := Lib.hid hfin
        clear hfin c2
        go_enter Tryz.func88, Tryz.ntmps88
        go_wp2
        go_ret
        exact ⟨ret_bool HF.out.symm, fin⟩
      · have c3' : (wo == sf) = false := by simpa using c3
        have hfin : fitS sd sf sb ⟨wd, wo⟩ = (wo == sb) := by simp [fitS, c1, c2', c3']
        have HF := Lib.hid hfin
        clear hfin c2 c3
        go_enter Tryz.func88, Tryz.ntmps88
        go_wp2
        go_ret
        exact ⟨ret_bool HF.out.symm, fin⟩
  · have c1' : (wd == sd) = false := by simpa using c1
    have hfin : fitS sd sf sb ⟨wd, wo⟩ = false := by simp [fitS, c1']
    have HF := Lib.hid hfin
    clear hfin c1
    go_enter Tryz.func88, Tryz.ntmps88
    go_wp2
    go_ret
    exact ⟨ret_bool HF.out.symm, fin⟩
theorem fits_none (sd sf sb : Int) (l : List S59) (x : Int) (hx : (l.length : Int) ≤ x) (h : ∀ j : Int, 0 ≤ j → j < x → fitS sd sf sb (rd_T59 l j) = false) : l.any (fitS sd sf sb) = false := by
  rw [List.any_eq_false]
  intro a ha
  obtain ⟨i, hi, rfl⟩ := List.getElem_of_mem ha
  have := h i (by omega) (by omega)
  unfold rd_T59 at this
  simpa [hi] using this
theorem fits_some (sd sf sb : Int) (l : List S59) (x : Int) (h0 : 0 ≤ x) (hx : x < (l.length : Int)) (h : fitS sd sf sb (rd_T59 l x) = true) : l.any (fitS sd sf sb) = true := by
  rw [List.any_eq_true]
  have hi : x.toNat < l.length := by omega
  refine ⟨l[x.toNat], List.getElem_mem _, ?_⟩
  unfold rd_T59 at h
  simpa [hi] using h
set_option maxHeartbeats 2000000 in
theorem recur_IndexFunc (sd sf sb : Int) (A : Option Addr) (c : Nat) (l : List S59) (w : World) (hr : Kd.C k59 w A l.length l) (hc : l.length ≤ c) (hm : l.length ≤ 1000000000) :
    Calls Tryz.prog 111 #[.slice A l.length c, .func (.func 88) #[.agg #[.int .i64 sd, .int .i64 sf, .int .i64 sb]] #[]] w fun e w' =>
      (∃ r : Int, e = .returned (.int .i64 r) ∧ decide (0 ≤ r) = l.any (fitS sd sf sb)) ∧ Below w.heap.size w w' := by
  have HR := Aside0.mk hr
  clear hr
  go_enter Tryz.func111, Tryz.ntmps111
  go_wp2
  go_loopw [8] (fun i wr => ∃ x : Int, 0 ≤ x ∧ x ≤ l.length ∧ i = .int .i64 x ∧ Aside0 (∀ j : Int, 0 ≤ j → j < x → fitS sd sf sb (rd_T59 l j) = false) ∧ Below w.heap.size w wr) (fun i _ => l.length - (intOf i).toNat)
  case atStart => exact ⟨0, by omega, by omega, rfl, ⟨fun j h1 h2 => by omega⟩, Below.refl _ _⟩
  case round =>
    obtain ⟨x, hx0, hx1, rfl, hno, hb⟩ := hrel
    by_cases hlt : x < (l.length : Int)
    · obtain ⟨ad, e, hx_0, hx_1⟩ := at_T59 HR.out x hx0 hlt
      cases e
      replace hx_0 := (hb.cell (World.block_lt_of_cell? w _ hx_0)).trans hx_0
      replace hx_1 := (hb.cell (World.block_lt_of_cell? w _ hx_1)).trans hx_1
      have hw : wrap64 (x + 1) = x + 1 := by unfold wrap64; omega
      have HW := Lib.hid hw
      clear hw
      go_wp2_with (go_at_call 88; refine (recur_fits sd sf sb _ _ _).mono ?_; rintro e w2 ⟨rfl, hb2⟩)
      · have hfit : fitS sd sf sb ⟨(rd_T59 l x).f0, (rd_T59 l x).f1⟩ = true := by assumption
        go_ret
        exact ⟨⟨x, rfl, by rw [fits_some sd sf sb l x hx0 hlt hfit]; simp [hx0]⟩, hb.trans (hb2.mono hb.size)⟩
      · have hfit : fitS sd sf sb ⟨(rd_T59 l x).f0, (rd_T59 l x).f1⟩ = false := by assumption
        go_roundw
        case rel => exact ⟨x + 1, by omega, by omega, rfl, ⟨fun j h1 h2 => if e : j = x then by rw [e]; exact hfit else hno.out j h1 (by omega)⟩, hb.trans (hb2.mono hb.size)⟩
        case measure => simp [intOf]; omega
    · go_wp2
      go_ret
      exact ⟨⟨-1, rfl, by rw [fits_none sd sf sb l x (by omega) hno.out]; rfl⟩, hb⟩
set_option maxHeartbeats 2000000 in
theorem recur_ContainsFunc (sd sf sb : Int) (A : Option Addr) (c : Nat) (l : List S59) (w : World) (hr : Kd.C k59 w A l.length l) (hc : l.length ≤ c) (hm : l.length ≤ 1000000000) :
    Calls Tryz.prog 87 #[.slice A l.length c, .func (.func 88) #[.agg #[.int .i64 sd, .int .i64 sf, .int .i64 sb]] #[]] w fun e w' =>
      e = .returned (.bool (l.any (fitS sd sf sb))) ∧ Below w.heap.size w w' := by
  have HR := Aside0.mk hr
  clear hr
  go_enter Tryz.func87, Tryz.ntmps87
  go_wp2_with (go_at_call 111; refine (recur_IndexFunc sd sf sb A c l _ HR.out hc hm).mono ?_; rintro e w2 ⟨⟨r, rfl, hd⟩, hb2⟩; have HD := Lib.hid hd; clear hd)
  go_ret
  exact ⟨ret_bool HD.out, hb2⟩
end Go.Proofs.YtfbmjonhohebiaaGreatDoor
end
section
set_option linter.unusedVariables false
set_option linter.unusedSimpArgs false
namespace Go.Proofs.YtfbmjonhohebiaaGreatDoor
open Go.RowKit Go.Proofs.YtfbmjonhohebiaaGreatDoorW.PrintWords Go.Proofs.YtfbmjonhohebiaaGreatDoorW.PrintLast Go.Proofs.YtfbmjonhohebiaaGreatDoorW.PrintMore PRecurExpands
def hasI (l : List Int) (a : Int) : Bool := l.contains a
theorem contains_int (A : Option Addr) (c : Nat) (l : List Int) (a : Int) (w : World) (hr : Kd.C (Kd.int .i64) w A l.length l) (hc : l.length ≤ c) (hl : l.length ≤ 1000000000) :
    Calls Tryz.prog 57 #[.slice A l.length c, .int .i64 a] w fun e w' => e = .returned (.bool (hasI l a)) ∧ Below w.heap.size w w' := by
  obtain ⟨k, hk⟩ := (contains_int_ev l a hl).rounds
  exact (slices_Contains_int_int.calls k A c l a _ w hr hc hk).mono fun e w' h => ⟨h.1, h.2.below⟩
def mayS (l5 : List Int) (l6 : List S59) (n d wd first : Int) : Bool :=
  if l5 = [] ∧ l6 = [] then d == first
  else if l5 ≠ [] ∧ hasI l5 d = false ∧ hasI l5 (d - n - 1) = false then false
  else l6.isEmpty || l6.any (fitS wd ((d + 6) / 7) (-((n - d) / 7 + 1)))
set_option maxHeartbeats 4000000 in
theorem recur_may (a0 a1 a2 a3 : Int) (A4 A5 A6 : Option Addr) (c4 c5 c6 : Nat) (l4 l5 : List Int) (l6 : List S59) (y d wd first : Int) (m : Nat) (w : World)
    (hr5 : Kd.C (Kd.int .i64) w A5 l5.length l5) (hc5 : l5.length ≤ c5) (hr6 : Kd.C k59 w A6 l6.length l6) (hc6 : l6.length ≤ c6) (hl5 : l5.length ≤ 1000000000) (hl6 : l6.length ≤ 1000000000)
    (h0 : 1970 ≤ y) (h1 : y ≤ 9999) (hm0 : 1 ≤ m) (hm1 : m ≤ 12) (hd0 : 1 ≤ d) (hd1 : d ≤ Cal.mlen y m) :
    Calls Tryz.prog 59 #[.agg #[.int .i64 a0, .int .i64 a1, .int .i64 a2, .int .i64 a3, .slice A4 l4.length c4, .slice A5 l5.length c5, .slice A6 l6.length c6], .int .i64 y, .int .i64 m, .int .i64 d, .int .i64 wd, .int .i64 first] w fun e w' =>
      e = .returned (.bool (mayS l5 l6 (Cal.mlen y m) d wd first)) ∧ Below w.heap.size w w' := by
  have HR5 := Aside0.mk hr5
  have HR6 := Aside0.mk hr6
  clear hr5 hr6
  have B0 := Aside0.mk ((Below.refl w.heap.size w).alloc (Nat.le_refl _) (.cells #[.int .i64 a0, .int .i64 a1, .int .i64 a2, .int .i64 a3, .slice A4 l4.length c4, .slice A5 l5.length c5, .slice A6 l6.length c6] 25))
  have ml := mlen_le31 y m
  have ml0 := mlen_ge28 y m
  have lt : ∀ {α : Type} {l : List α}, l ≠ [] → 0 < l.length := fun h => List.length_pos_iff.mpr h
  have nz : ∀ {α : Type} {l : List α}, l ≠ [] → ((l.length : Int) == 0) = false := fun h => by have := List.length_pos_iff.mpr h; rw [beq_eq_false_iff_ne]; omega
  have emp : ∀ {α : Type} {l : List α}, l ≠ [] → l.isEmpty = false := fun {α l} h => by cases l with | nil => exact absurd rfl h | cons a b => rfl
  by_cases e5 : l5 = []
  · by_cases e6 : l6 = []
    · have hfin : mayS l5 l6 (Cal.mlen y m) d wd first = (d == first) := by unfold mayS; rw [if_pos ⟨e5, e6⟩]
      have HF := Lib.hid hfin
      clear hfin lt nz emp
      subst e5; subst e6
      go_enter Tryz.func59, Tryz.ntmps59
      go_wp2_with (first
      | (go_at_call 86; refine (recur_length y m h0 h1 hm0 hm1 _).mono ?_; rintro e w1 ⟨rfl, hb1⟩; obtain ⟨hc1, hf1⟩ := bcell hb1; have hz1 : w.heap.size < w1.heap.size := (by have := hb1.size; simp at this; omega); have HB := Aside0.mk (B0.out.trans (hb1.mono (by simp))); clear hb1)
      | (go_at_call 57; refine (contains_int A5 c5 l5 _ _ (Kd.C_below HR5.out HB.out) hc5 hl5).mono ?_; rintro e w2 ⟨rfl, hb2⟩; obtain ⟨hc2, hf2⟩ := bcell hb2; have hz2 : w.heap.size < w2.heap.size := (Nat.lt_of_lt_of_le (by assumption) hb2.size); have HB' := Aside0.mk (HB.out.trans (hb2.mono HB.out.size)); clear HB hb2; have HB := HB'; clear HB')
      | (go_at_call 87; refine (recur_ContainsFunc _ _ _ A6 c6 l6 _ (Kd.C_below HR6.out (by first | exact HB.out | exact HB.out.alloc HB.out.size _)) hc6 hl6).mono ?_; rintro e w4 ⟨rfl, hb4⟩; have HC := Aside0.mk hb4; clear hb4))
      go_ret
      exact ⟨ret_bool HF.out.symm, HB.out⟩
    · have hfin : mayS l5 l6 (Cal.mlen y m) d wd first = l6.any (fitS wd ((d + 6) / 7) (-((Cal.mlen y m - d) / 7 + 1))) := by unfold mayS; rw [if_neg (fun h => e6 h.2), if_neg (fun h => h.1 e5), emp e6, Bool.false_or]
      have HF := Lib.hid hfin
      have p6 := lt e6
      have z6 := nz e6
      clear hfin lt nz emp
      subst e5
      go_enter Tryz.func59, Tryz.ntmps59
      go_wp2_with (first
      | (go_at_call 86; refine (recur_length y m h0 h1 hm0 hm1 _).mono ?_; rintro e w1 ⟨rfl, hb1⟩; obtain ⟨hc1, hf1⟩ := bcell hb1; have hz1 : w.heap.size < w1.heap.size := (by have := hb1.size; simp at this; omega); have HB := Aside0.mk (B0.out.trans (hb1.mono (by simp))); clear hb1)
      | (go_at_call 57; refine (contains_int A5 c5 l5 _ _ (Kd.C_below HR5.out HB.out) hc5 hl5).mono ?_; rintro e w2 ⟨rfl, hb2⟩; obtain ⟨hc2, hf2⟩ := bcell hb2; have hz2 : w.heap.size < w2.heap.size := (Nat.lt_of_lt_of_le (by assumption) hb2.size); have HB' := Aside0.mk (HB.out.trans (hb2.mono HB.out.size)); clear HB hb2; have HB := HB'; clear HB')
      | (go_at_call 87; refine (recur_ContainsFunc _ _ _ A6 c6 l6 _ (Kd.C_below HR6.out (by first | exact HB.out | exact HB.out.alloc HB.out.size _)) hc6 hl6).mono ?_; rintro e w4 ⟨rfl, hb4⟩; have HC := Aside0.mk hb4; clear hb4))
      go_ret
      exact ⟨ret_bool HF.out.symm, (HB.out.alloc HB.out.size _).trans (HC.out.mono (by have := HB.out.size; simp; omega))⟩
  · have p5 := lt e5
    have z5 := nz e5
    have q5 : decide (0 < l5.length) = true := decide_eq_true p5
    by_cases k1 : hasI l5 d = true
    · by_cases e6 : l6 = []
      · have hfin : mayS l5 l6 (Cal.mlen y m) d wd first = true := by unfold mayS; rw [if_neg (fun h => e5 h.1), if_neg (fun h => by rw [k1] at h; exact absurd h.2.1 (by decide)), e6]; rfl
        have HF := Lib.hid hfin
        have K1 := k1
        clear hfin lt nz emp k1
        subst e6
        go_enter Tryz.func59, Tryz.ntmps59
        go_wp2_with (first
      | (go_at_call 86; refine (recur_length y m h0 h1 hm0 hm1 _).mono ?_; rintro e w1 ⟨rfl, hb1⟩; obtain ⟨hc1, hf1⟩ := bcell hb1; have hz1 : w.heap.size < w1.heap.size := (by have := hb1.size; simp at this; omega); have HB := Aside0.mk (B0.out.trans (hb1.mono (by simp))); clear hb1)
      | (go_at_call 57; refine (contains_int A5 c5 l5 _ _ (Kd.C_below HR5.out HB.out) hc5 hl5).mono ?_; rintro e w2 ⟨rfl, hb2⟩; obtain ⟨hc2, hf2⟩ := bcell hb2; have hz2 : w.heap.size < w2.heap.size := (Nat.lt_of_lt_of_le (by assumption) hb2.size); have HB' := Aside0.mk (HB.out.trans (hb2.mono HB.out.size)); clear HB hb2; have HB := HB'; clear HB')
      | (go_at_call 87; refine (recur_ContainsFunc _ _ _ A6 c6 l6 _ (Kd.C_below HR6.out (by first | exact HB.out | exact HB.out.alloc HB.out.size _)) hc6 hl6).mono ?_; rintro e w4 ⟨rfl, hb4⟩; have HC := Aside0.mk hb4; clear hb4))
        go_ret
        exact ⟨ret_bool HF.out.symm, HB.out⟩
      · have hfin : mayS l5 l6 (Cal.mlen y m) d wd first = l6.any (fitS wd ((d + 6) / 7) (-((Cal.mlen y m - d) / 7 + 1))) := by unfold mayS; rw [if_neg (fun h => e6 h.2), if_neg (fun h => by rw [k1] at h; exact absurd h.2.1 (by decide)), emp e6, Bool.false_or]
        have HF := Lib.hid hfin
        have p6 := lt e6
        have z6 := nz e6
        clear hfin lt nz emp
        go_enter Tryz.func59, Tryz.ntmps59
        go_wp2_with (first
      | (go_at_call 86; refine (recur_length y m h0 h1 hm0 hm1 _).mono ?_; rintro e w1 ⟨rfl, hb1⟩; obtain ⟨hc1, hf1⟩ := bcell hb1; have hz1 : w.heap.size < w1.heap.size := (by have := hb1.size; simp at this; omega); have HB := Aside0.mk (B0.out.trans (hb1.mono (by simp))); clear hb1)
      | (go_at_call 57; refine (contains_int A5 c5 l5 _ _ (Kd.C_below HR5.out HB.out) hc5 hl5).mono ?_; rintro e w2 ⟨rfl, hb2⟩; obtain ⟨hc2, hf2⟩ := bcell hb2; have hz2 : w.heap.size < w2.heap.size := (Nat.lt_of_lt_of_le (by assumption) hb2.size); have HB' := Aside0.mk (HB.out.trans (hb2.mono HB.out.size)); clear HB hb2; have HB := HB'; clear HB')
      | (go_at_call 87; refine (recur_ContainsFunc _ _ _ A6 c6 l6 _ (Kd.C_below HR6.out (by first | exact HB.out | exact HB.out.alloc HB.out.size _)) hc6 hl6).mono ?_; rintro e w4 ⟨rfl, hb4⟩; have HC := Aside0.mk hb4; clear hb4))
        go_ret
        exact ⟨ret_bool HF.out.symm, (HB.out.alloc HB.out.size _).trans (HC.out.mono (by have := HB.out.size; simp; omega))⟩
    · have k1' : hasI l5 d = false := by simpa using k1
      clear k1
      by_cases k2 : hasI l5 (d - Cal.mlen y m - 1) = true
      · by_cases e6 : l6 = []
        · have hfin : mayS l5 l6 (Cal.mlen y m) d wd first = true := by unfold mayS; rw [if_neg (fun h => e5 h.1), if_neg (fun h => by rw [k2] at h; exact absurd h.2.2 (by decide)), e6]; rfl
          have HF := Lib.hid hfin
          clear hfin lt nz emp
          subst e6
          go_enter Tryz.func59, Tryz.ntmps59
          go_wp2_with (first
      | (go_at_call 86; refine (recur_length y m h0 h1 hm0 hm1 _).mono ?_; rintro e w1 ⟨rfl, hb1⟩; obtain ⟨hc1, hf1⟩ := bcell hb1; have hz1 : w.heap.size < w1.heap.size := (by have := hb1.size; simp at this; omega); have HB := Aside0.mk (B0.out.trans (hb1.mono (by simp))); clear hb1)
      | (go_at_call 57; refine (contains_int A5 c5 l5 _ _ (Kd.C_below HR5.out HB.out) hc5 hl5).mono ?_; rintro e w2 ⟨rfl, hb2⟩; obtain ⟨hc2, hf2⟩ := bcell hb2; have hz2 : w.heap.size < w2.heap.size := (Nat.lt_of_lt_of_le (by assumption) hb2.size); have HB' := Aside0.mk (HB.out.trans (hb2.mono HB.out.size)); clear HB hb2; have HB := HB'; clear HB')
      | (go_at_call 87; refine (recur_ContainsFunc _ _ _ A6 c6 l6 _ (Kd.C_below HR6.out (by first | exact HB.out | exact HB.out.alloc HB.out.size _)) hc6 hl6).mono ?_; rintro e w4 ⟨rfl, hb4⟩; have HC := Aside0.mk hb4; clear hb4))
          go_ret
          exact ⟨ret_bool HF.out.symm, HB.out⟩
        · have hfin : mayS l5 l6 (Cal.mlen y m) d wd first = l6.any (fitS wd ((d + 6) / 7) (-((Cal.mlen y m - d) / 7 + 1))) := by unfold mayS; rw [if_neg (fun h => e6 h.2), if_neg (fun h => by rw [k2] at h; exact absurd h.2.2 (by decide)), emp e6, Bool.false_or]
          have HF := Lib.hid hfin
          have p6 := lt e6
          have z6 := nz e6
          clear hfin lt nz emp
          go_enter Tryz.func59, Tryz.ntmps59
          go_wp2_with (first
      | (go_at_call 86; refine (recur_length y m h0 h1 hm0 hm1 _).mono ?_; rintro e w1 ⟨rfl, hb1⟩; obtain ⟨hc1, hf1⟩ := bcell hb1; have hz1 : w.heap.size < w1.heap.size := (by have := hb1.size; simp at this; omega); have HB := Aside0.mk (B0.out.trans (hb1.mono (by simp))); clear hb1)
      | (go_at_call 57; refine (contains_int A5 c5 l5 _ _ (Kd.C_below HR5.out HB.out) hc5 hl5).mono ?_; rintro e w2 ⟨rfl, hb2⟩; obtain ⟨hc2, hf2⟩ := bcell hb2; have hz2 : w.heap.size < w2.heap.size := (Nat.lt_of_lt_of_le (by assumption) hb2.size); have HB' := Aside0.mk (HB.out.trans (hb2.mono HB.out.size)); clear HB hb2; have HB := HB'; clear HB')
      | (go_at_call 87; refine (recur_ContainsFunc _ _ _ A6 c6 l6 _ (Kd.C_below HR6.out (by first | exact HB.out | exact HB.out.alloc HB.out.size _)) hc6 hl6).mono ?_; rintro e w4 ⟨rfl, hb4⟩; have HC := Aside0.mk hb4; clear hb4))
          go_ret
          exact ⟨ret_bool HF.out.symm, (HB.out.alloc HB.out.size _).trans (HC.out.mono (by have := HB.out.size; simp; omega))⟩
      · have k2' : hasI l5 (d - Cal.mlen y m - 1) = false := by simpa using k2
        have hfin : mayS l5 l6 (Cal.mlen y m) d wd first = false := by unfold mayS; rw [if_neg (fun h => e5 h.1), if_pos ⟨e5, k1', k2'⟩]
        have HF := Lib.hid hfin
        clear hfin lt nz emp k2
        go_enter Tryz.func59, Tryz.ntmps59
        go_wp2_with (first
      | (go_at_call 86; refine (recur_length y m h0 h1 hm0 hm1 _).mono ?_; rintro e w1 ⟨rfl, hb1⟩; obtain ⟨hc1, hf1⟩ := bcell hb1; have hz1 : w.heap.size < w1.heap.size := (by have := hb1.size; simp at this; omega); have HB := Aside0.mk (B0.out.trans (hb1.mono (by simp))); clear hb1)
      | (go_at_call 57; refine (contains_int A5 c5 l5 _ _ (Kd.C_below HR5.out HB.out) hc5 hl5).mono ?_; rintro e w2 ⟨rfl, hb2⟩; obtain ⟨hc2, hf2⟩ := bcell hb2; have hz2 : w.heap.size < w2.heap.size := (Nat.lt_of_lt_of_le (by assumption) hb2.size); have HB' := Aside0.mk (HB.out.trans (hb2.mono HB.out.size)); clear HB hb2; have HB := HB'; clear HB')
      | (go_at_call 87; refine (recur_ContainsFunc _ _ _ A6 c6 l6 _ (Kd.C_below HR6.out (by first | exact HB.out | exact HB.out.alloc HB.out.size _)) hc6 hl6).mono ?_; rintro e w4 ⟨rfl, hb4⟩; have HC := Aside0.mk hb4; clear hb4))
        go_ret
        exact ⟨ret_bool HF.out.symm, HB.out⟩
end Go.Proofs.YtfbmjonhohebiaaGreatDoor
end
