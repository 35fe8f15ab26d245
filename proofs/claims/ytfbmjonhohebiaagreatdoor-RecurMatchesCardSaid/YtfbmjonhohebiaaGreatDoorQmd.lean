/- Texts merged: what the law needs, and no more. -/
import Derived.Test.YtfbmjonhohebiaaGreatDoorQmc
section
namespace Go.Proofs.YtfbmjonhohebiaaGreatDoor.PRecurExpands
open Go.RowKit Go.Proofs.YtfbmjonhohebiaaGreatDoorW.PrintWords Go.Proofs.YtfbmjonhohebiaaGreatDoorW.PrintLast Go.Proofs.YtfbmjonhohebiaaGreatDoorW.PrintMore
attribute [local go_sem] max2_int min2_int max_two min_two max_three min_three max_four min_four
set_option linter.unusedVariables false
set_option linter.unusedSimpArgs false
mutual
def posthornref21_Right.j0 : Nat → Bool → Int → Int → Int → Int → List Int → List Int → List (S60) → Option (Bool)
  | 0, _, _, _, _, _, _, _, _ => none
  | k + 1, x30, x319000, x319001, x319002, x319003, x319004, x319005, x319006 => if x30 = true then (some false) else (if x319003 = (-1) then (posthornref21_Right.j1 k false x319000 x319001 x319002 x319003 x319004 x319005 x319006) else ((posthornref12_Time.f x319003).bind fun t319 => (if t319 = true then (posthornref21_Right.j1 k (decide (x319002 > 0)) x319000 x319001 x319002 x319003 x319004 x319005 x319006) else (posthornref21_Right.j1 k true x319000 x319001 x319002 x319003 x319004 x319005 x319006))))
def posthornref21_Right.j1 : Nat → Bool → Int → Int → Int → Int → List Int → List Int → List (S60) → Option (Bool)
  | 0, _, _, _, _, _, _, _, _ => none
  | k + 1, x49, x319000, x319001, x319002, x319003, x319004, x319005, x319006 => if x49 = true then (some false) else (if x319000 ≤ 2 then (posthornref21_Right.j2 k (decide ((x319005.length : Int) > 0)) x319000 x319001 x319002 x319003 x319004 x319005 x319006) else (posthornref21_Right.j2 k false x319000 x319001 x319002 x319003 x319004 x319005 x319006))
def posthornref21_Right.j2 : Nat → Bool → Int → Int → Int → Int → List Int → List Int → List (S60) → Option (Bool)
  | 0, _, _, _, _, _, _, _, _ => none
  | k + 1, x58, x319000, x319001, x319002, x319003, x319004, x319005, x319006 => if x58 = true then (some false) else ((posthornref21_list.f k x319004 1 12).bind fun t320 => (if t320 = true then ((posthornref21_list.f k x319005 (-31) 31).bind fun t321 => (if t321 = true then ((posthornref21_week.f k x319006 (decide (x319000 ≥ 3))).bind fun t322 => (some t322)) else (some false))) else (some false)))
end
def posthornref21_Right.f (k : Nat) (a0_0 : Int) (a0_1 : Int) (a0_2 : Int) (a0_3 : Int) (l0_4 : List Int) (l0_5 : List Int) (l0_6 : List (S60)) : Option (Bool) := if a0_0 < 1 then (posthornref21_Right.j0 k true a0_0 a0_1 a0_2 a0_3 l0_4 l0_5 l0_6) else (if a0_0 > 4 then (posthornref21_Right.j0 k true a0_0 a0_1 a0_2 a0_3 l0_4 l0_5 l0_6) else (if a0_1 < 1 then (posthornref21_Right.j0 k true a0_0 a0_1 a0_2 a0_3 l0_4 l0_5 l0_6) else (if a0_1 > 1000 then (posthornref21_Right.j0 k true a0_0 a0_1 a0_2 a0_3 l0_4 l0_5 l0_6) else (if a0_2 < 0 then (posthornref21_Right.j0 k true a0_0 a0_1 a0_2 a0_3 l0_4 l0_5 l0_6) else (posthornref21_Right.j0 k (decide (a0_2 > 10000)) a0_0 a0_1 a0_2 a0_3 l0_4 l0_5 l0_6)))))
theorem posthornref21_Right.mono_l : ∀ k, (∀ y0 y1 y2 y3 y4 y5 y6 y7, LeO (posthornref21_Right.j0 k y0 y1 y2 y3 y4 y5 y6 y7) (posthornref21_Right.j0 (k + 1) y0 y1 y2 y3 y4 y5 y6 y7)) ∧ (∀ y0 y1 y2 y3 y4 y5 y6 y7, LeO (posthornref21_Right.j1 k y0 y1 y2 y3 y4 y5 y6 y7) (posthornref21_Right.j1 (k + 1) y0 y1 y2 y3 y4 y5 y6 y7)) ∧ (∀ y0 y1 y2 y3 y4 y5 y6 y7, LeO (posthornref21_Right.j2 k y0 y1 y2 y3 y4 y5 y6 y7) (posthornref21_Right.j2 (k + 1) y0 y1 y2 y3 y4 y5 y6 y7))
  | 0 => ⟨fun _ _ _ _ _ _ _ _ r h => by simp [posthornref21_Right.j0] at h, fun _ _ _ _ _ _ _ _ r h => by simp [posthornref21_Right.j1] at h, fun _ _ _ _ _ _ _ _ r h => by simp [posthornref21_Right.j2] at h⟩
  | k + 1 => by
    obtain ⟨ih0, ih1, ih2⟩ := posthornref21_Right.mono_l k
    refine ⟨?_, ?_, ?_⟩
    · intro y0 y1 y2 y3 y4 y5 y6 y7
      unfold posthornref21_Right.j0
      repeat' first
      | (with_reducible exact ih0 _ _ _ _ _ _ _ _)
      | (with_reducible exact ih1 _ _ _ _ _ _ _ _)
      | (with_reducible exact ih2 _ _ _ _ _ _ _ _)
      | (with_reducible exact posthornref21_list.mono _ _ _ _)
      | (with_reducible exact posthornref21_week.mono _ _ _)
      | (with_reducible exact LeO.refl _)
      | (with_reducible exact LeO.none _)
      | (with_reducible refine LeO.ite ?_ ?_)
      | (with_reducible refine LeO.bind ?_ (fun _ => ?_))
      | exact ih0 _ _ _ _ _ _ _ _
      | exact ih1 _ _ _ _ _ _ _ _
      | exact ih2 _ _ _ _ _ _ _ _
      | exact posthornref21_list.mono _ _ _ _
      | exact posthornref21_week.mono _ _ _
      | exact LeO.none _
      | refine LeO.ite ?_ ?_
      | refine LeO.bind ?_ (fun _ => ?_)
    · intro y0 y1 y2 y3 y4 y5 y6 y7
      unfold posthornref21_Right.j1
      repeat' first
      | (with_reducible exact ih0 _ _ _ _ _ _ _ _)
      | (with_reducible exact ih1 _ _ _ _ _ _ _ _)
      | (with_reducible exact ih2 _ _ _ _ _ _ _ _)
      | (with_reducible exact posthornref21_list.mono _ _ _ _)
      | (with_reducible exact posthornref21_week.mono _ _ _)
      | (with_reducible exact LeO.refl _)
      | (with_reducible exact LeO.none _)
      | (with_reducible refine LeO.ite ?_ ?_)
      | (with_reducible refine LeO.bind ?_ (fun _ => ?_))
      | exact ih0 _ _ _ _ _ _ _ _
      | exact ih1 _ _ _ _ _ _ _ _
      | exact ih2 _ _ _ _ _ _ _ _
      | exact posthornref21_list.mono _ _ _ _
      | exact posthornref21_week.mono _ _ _
      | exact LeO.none _
      | refine LeO.ite ?_ ?_
      | refine LeO.bind ?_ (fun _ => ?_)
    · intro y0 y1 y2 y3 y4 y5 y6 y7
      unfold posthornref21_Right.j2
      repeat' first
      | (with_reducible exact ih0 _ _ _ _ _ _ _ _)
      | (with_reducible exact ih1 _ _ _ _ _ _ _ _)
      | (with_reducible exact ih2 _ _ _ _ _ _ _ _)
      | (with_reducible exact posthornref21_list.mono _ _ _ _)
      | (with_reducible exact posthornref21_week.mono _ _ _)
      | (with_reducible exact LeO.refl _)
      | (with_reducible exact LeO.none _)
      | (with_reducible refine LeO.ite ?_ ?_)
      | (with_reducible refine LeO.bind ?_ (fun _ => ?_))
      | exact ih0 _ _ _ _ _ _ _ _
      | exact ih1 _ _ _ _ _ _ _ _
      | exact ih2 _ _ _ _ _ _ _ _
      | exact posthornref21_list.mono _ _ _ _
      | exact posthornref21_week.mono _ _ _
      | exact LeO.none _
      | refine LeO.ite ?_ ?_
      | refine LeO.bind ?_ (fun _ => ?_)
theorem posthornref21_Right.mono : ∀ a0 a1 a2 a3 a4 a5 a6 k, LeO (posthornref21_Right.f k a0 a1 a2 a3 a4 a5 a6) (posthornref21_Right.f (k + 1) a0 a1 a2 a3 a4 a5 a6) := by
  intro a0 a1 a2 a3 a4 a5 a6 k
  obtain ⟨ih0, ih1, ih2⟩ := posthornref21_Right.mono_l k
  unfold posthornref21_Right.f
  repeat' first
      | (with_reducible exact ih0 _ _ _ _ _ _ _ _)
      | (with_reducible exact ih1 _ _ _ _ _ _ _ _)
      | (with_reducible exact ih2 _ _ _ _ _ _ _ _)
      | (with_reducible exact posthornref21_list.mono _ _ _ _)
      | (with_reducible exact posthornref21_week.mono _ _ _)
      | (with_reducible exact LeO.refl _)
      | (with_reducible exact LeO.none _)
      | (with_reducible refine LeO.ite ?_ ?_)
      | (with_reducible refine LeO.bind ?_ (fun _ => ?_))
      | exact ih0 _ _ _ _ _ _ _ _
      | exact ih1 _ _ _ _ _ _ _ _
      | exact ih2 _ _ _ _ _ _ _ _
      | exact posthornref21_list.mono _ _ _ _
      | exact posthornref21_week.mono _ _ _
      | exact LeO.none _
      | refine LeO.ite ?_ ?_
      | refine LeO.bind ?_ (fun _ => ?_)
set_option maxHeartbeats 8000000 in
set_option maxRecDepth 100000 in
theorem posthornref21_Right.calls (k : Nat) (a0_0 : Int) (a0_1 : Int) (a0_2 : Int) (a0_3 : Int) (A0_4 : Option Addr) (c0_4 : Nat) (l0_4 : List Int) (A0_5 : Option Addr) (c0_5 : Nat) (l0_5 : List Int) (A0_6 : Option Addr) (c0_6 : Nat) (l0_6 : List (S60)) (r : Bool) (w : World) (hr0_4 : Kd.C (Kd.int .i64) w A0_4 l0_4.length l0_4) (hc0_4 : l0_4.length ≤ c0_4) (hr0_5 : Kd.C (Kd.int .i64) w A0_5 l0_5.length l0_5) (hc0_5 : l0_5.length ≤ c0_5) (hr0_6 : Kd.C k60 w A0_6 l0_6.length l0_6) (hc0_6 : l0_6.length ≤ c0_6) (h : posthornref21_Right.f k a0_0 a0_1 a0_2 a0_3 l0_4 l0_5 l0_6 = some r) :
    Calls Tryz.prog 25 #[.agg #[.int .i64 a0_0, .int .i64 a0_1, .int .i64 a0_2, .int .i64 a0_3, .slice A0_4 l0_4.length c0_4, .slice A0_5 l0_5.length c0_5, .slice A0_6 l0_6.length c0_6]] w fun e w' => e = .returned (.bool r) ∧ Below w.heap.size w w' := by
  have hu34 := Tryz.underlying34
  have HR0_4 := Aside0.mk hr0_4
  have HC0_4 := Aside0.mk hc0_4
  clear hr0_4 hc0_4
  have HR0_5 := Aside0.mk hr0_5
  have HC0_5 := Aside0.mk hc0_5
  clear hr0_5 hc0_5
  have HR0_6 := Aside0.mk hr0_6
  have HC0_6 := Aside0.mk hc0_6
  clear hr0_6 hc0_6
  have HB := Aside0.mk (Below.refl w.heap.size w)
  have H : (if a0_0 < 1 then (posthornref21_Right.j0 k true a0_0 a0_1 a0_2 a0_3 l0_4 l0_5 l0_6) else (if a0_0 > 4 then (posthornref21_Right.j0 k true a0_0 a0_1 a0_2 a0_3 l0_4 l0_5 l0_6) else (if a0_1 < 1 then (posthornref21_Right.j0 k true a0_0 a0_1 a0_2 a0_3 l0_4 l0_5 l0_6) else (if a0_1 > 1000 then (posthornref21_Right.j0 k true a0_0 a0_1 a0_2 a0_3 l0_4 l0_5 l0_6) else (if a0_2 < 0 then (posthornref21_Right.j0 k true a0_0 a0_1 a0_2 a0_3 l0_4 l0_5 l0_6) else (posthornref21_Right.j0 k (decide (a0_2 > 10000)) a0_0 a0_1 a0_2 a0_3 l0_4 l0_5 l0_6)))))) = some r := h
  clear h
  have HC2 := Aside0.mk H
  clear H
  go_enter Tryz.func25, Tryz.ntmps25
  go_upto_region 1 with (first | ((with_reducible refine gate_dst (N := 1) rfl ?_); (try (refine gate_guard (by rfl) ?_; dsimp only)); refine box_event ?hg (N := 1) ?hd (cs := #[.int .i64 a0_0, .int .i64 a0_1, .int .i64 a0_2, .int .i64 a0_3, .slice A0_4 l0_4.length c0_4, .slice A0_5 l0_5.length c0_5, .slice A0_6 l0_6.length c0_6]) (t := 34) ?hr ?_; (case hd => rfl); (case hg => rfl); (case hr => first | (go_simp; done) | (go_simp; rfl)); intro gb318 hg w3 hbox hb; have n0_ := Aside0.mk (below_step (by repeat (first | (with_reducible first | exact HB.out | apply below_alloc | apply pw_below_drewN | apply below_drew1) | exact HB.out)) hb); have n1_ := Aside0.mk (hbox); have n2_ := Aside0.mk ((by rw [hg]; exact (below_size (by repeat (first | (with_reducible first | exact HB.out | apply below_alloc | apply pw_below_drewN | apply below_drew1) | exact HB.out))) : w.heap.size ≤ gb318)); have n3_ := Aside0.mk ((by rw [hg]; exact (below_size (by repeat (first | (with_reducible first | exact HB.out | apply below_alloc | apply pw_below_drewN | apply below_drew1) | exact HB.out))) : w.heap.size ≤ gb318)); clear HB; have HB := n0_; have BK318 := n1_; have GW318 := n2_; have GE318 := n3_; clear n0_ n1_ n2_ n3_; clear hb hbox hg))
  (try simp only [Act.put, List.setIfInBounds_toArray, List.set_cons_zero, List.set_cons_succ])
  go_cut [30] (fun v30 wc => ∃ (kq : Nat) (x30_1 : Bool), v30 = .bool x30_1 ∧ Aside0 (posthornref21_Right.j0 kq x30_1 a0_0 a0_1 a0_2 a0_3 l0_4 l0_5 l0_6 = some r) ∧ Aside0 (kq ≤ k) ∧ Aside0 (wc.heap[gb318]? = some (.cells #[.int .i64 a0_0, .int .i64 a0_1, .int .i64 a0_2, .int .i64 a0_3, (.slice A0_4 l0_4.length c0_4), (.slice A0_5 l0_5.length c0_5), (.slice A0_6 l0_6.length c0_6)] 34 (0, 0))) ∧ Aside0 (Below w.heap.size w wc))
  case first =>
    have H := HC2.out
    clear HC2
    by_cases c4 : a0_0 < 1
    · rw [if_pos c4] at H
      have c4b0 : decide (a0_0 < 1) = true := decide_eq_true c4
      clear c4
      (first | rw [c4b0] | (simp only [i64_w, i32_w]; rw [c4b0]) | skip)
      have H' := Aside0.mk H
      clear H
      have hcz5_0 : w3.cell? ⟨gb318, 0, none⟩ = some (.int .i64 a0_0) := (blk_cell BK318.out 0).trans rfl
      have hcz5_1 : w3.cell? ⟨gb318, 1, none⟩ = some (.int .i64 a0_1) := (blk_cell BK318.out 1).trans rfl
      have hcz5_2 : w3.cell? ⟨gb318, 2, none⟩ = some (.int .i64 a0_2) := (blk_cell BK318.out 2).trans rfl
      have hcz5_3 : w3.cell? ⟨gb318, 3, none⟩ = some (.int .i64 a0_3) := (blk_cell BK318.out 3).trans rfl
      have hcz5_4 : w3.cell? ⟨gb318, 4, none⟩ = some (.slice A0_4 l0_4.length c0_4) := (blk_cell BK318.out 4).trans rfl
      have hcz5_5 : w3.cell? ⟨gb318, 5, none⟩ = some (.slice A0_5 l0_5.length c0_5) := (blk_cell BK318.out 5).trans rfl
      have hcz5_6 : w3.cell? ⟨gb318, 6, none⟩ = some (.slice A0_6 l0_6.length c0_6) := (blk_cell BK318.out 6).trans rfl
      have hfz5_0 := blk_frozen BK318.out 0
      have hfz5_1 := blk_frozen BK318.out 1
      have hfz5_2 := blk_frozen BK318.out 2
      have hfz5_3 := blk_frozen BK318.out 3
      have hfz5_4 := blk_frozen BK318.out 4
      have hfz5_5 := blk_frozen BK318.out 5
      have hfz5_6 := blk_frozen BK318.out 6
      go_wp2
      go_meet
      case rel => exact ⟨_, (true), (by first | rfl | (simp; done) | (simp [*]; done)), H', ⟨by first | omega | exact Nat.le_refl _⟩, ⟨by (with_reducible repeat (first | refine blk_drewN ?_ _ | refine blk_drew ?_ | refine blk_alloc ?_ _)); exact BK318.out⟩, ⟨by repeat (first | (with_reducible first | exact HB.out | apply below_alloc | apply pw_below_drewN | apply below_drew1 | refine below_set ?_ GE318.out) | exact HB.out)⟩⟩
    · rw [if_neg c4] at H
      have c4b0 : decide (a0_0 < 1) = false := decide_eq_false c4
      clear c4
      (first | rw [c4b0] | (simp only [i64_w, i32_w]; rw [c4b0]) | skip)
      by_cases c6 : a0_0 > 4
      · rw [if_pos c6] at H
        have c6b0 : decide (4 < a0_0) = true := decide_eq_true c6
        clear c6
        have H' := Aside0.mk H
        clear H
        have hcz7_0 : w3.cell? ⟨gb318, 0, none⟩ = some (.int .i64 a0_0) := (blk_cell BK318.out 0).trans rfl
        have hcz7_1 : w3.cell? ⟨gb318, 1, none⟩ = some (.int .i64 a0_1) := (blk_cell BK318.out 1).trans rfl
        have hcz7_2 : w3.cell? ⟨gb318, 2, none⟩ = some (.int .i64 a0_2) := (blk_cell BK318.out 2).trans rfl
        have hcz7_3 : w3.cell? ⟨gb318, 3, none⟩ = some (.int .i64 a0_3) := (blk_cell BK318.out 3).trans rfl
        have hcz7_4 : w3.cell? ⟨gb318, 4, none⟩ = some (.slice A0_4 l0_4.length c0_4) := (blk_cell BK318.out 4).trans rfl
        have hcz7_5 : w3.cell? ⟨gb318, 5, none⟩ = some (.slice A0_5 l0_5.length c0_5) := (blk_cell BK318.out 5).trans rfl
        have hcz7_6 : w3.cell? ⟨gb318, 6, none⟩ = some (.slice A0_6 l0_6.length c0_6) := (blk_cell BK318.out 6).trans rfl
        have hfz7_0 := blk_frozen BK318.out 0
        have hfz7_1 := blk_frozen BK318.out 1
        have hfz7_2 := blk_frozen BK318.out 2
        have hfz7_3 := blk_frozen BK318.out 3
        have hfz7_4 := blk_frozen BK318.out 4
        have hfz7_5 := blk_frozen BK318.out 5
        have hfz7_6 := blk_frozen BK318.out 6
        go_wp2
        go_meet
        case rel => exact ⟨_, (true), (by first | rfl | (simp; done) | (simp [*]; done)), H', ⟨by first | omega | exact Nat.le_refl _⟩, ⟨by (with_reducible repeat (first | refine blk_drewN ?_ _ | refine blk_drew ?_ | refine blk_alloc ?_ _)); exact BK318.out⟩, ⟨by repeat (first | (with_reducible first | exact HB.out | apply below_alloc | apply pw_below_drewN | apply below_drew1 | refine below_set ?_ GE318.out) | exact HB.out)⟩⟩
      · rw [if_neg c6] at H
        have c6b0 : decide (4 < a0_0) = false := decide_eq_false c6
        clear c6
        by_cases c8 : a0_1 < 1
        · rw [if_pos c8] at H
          have c8b0 : decide (a0_1 < 1) = true := decide_eq_true c8
          clear c8
          have H' := Aside0.mk H
          clear H
          have hcz9_0 : w3.cell? ⟨gb318, 0, none⟩ = some (.int .i64 a0_0) := (blk_cell BK318.out 0).trans rfl
          have hcz9_1 : w3.cell? ⟨gb318, 1, none⟩ = some (.int .i64 a0_1) := (blk_cell BK318.out 1).trans rfl
          have hcz9_2 : w3.cell? ⟨gb318, 2, none⟩ = some (.int .i64 a0_2) := (blk_cell BK318.out 2).trans rfl
          have hcz9_3 : w3.cell? ⟨gb318, 3, none⟩ = some (.int .i64 a0_3) := (blk_cell BK318.out 3).trans rfl
          have hcz9_4 : w3.cell? ⟨gb318, 4, none⟩ = some (.slice A0_4 l0_4.length c0_4) := (blk_cell BK318.out 4).trans rfl
          have hcz9_5 : w3.cell? ⟨gb318, 5, none⟩ = some (.slice A0_5 l0_5.length c0_5) := (blk_cell BK318.out 5).trans rfl
          have hcz9_6 : w3.cell? ⟨gb318, 6, none⟩ = some (.slice A0_6 l0_6.length c0_6) := (blk_cell BK318.out 6).trans rfl
          have hfz9_0 := blk_frozen BK318.out 0
          have hfz9_1 := blk_frozen BK318.out 1
          have hfz9_2 := blk_frozen BK318.out 2
          have hfz9_3 := blk_frozen BK318.out 3
          have hfz9_4 := blk_frozen BK318.out 4
          have hfz9_5 := blk_frozen BK318.out 5
          have hfz9_6 := blk_frozen BK318.out 6
          go_wp2
          go_meet
          case rel => exact ⟨_, (true), (by first | rfl | (simp; done) | (simp [*]; done)), H', ⟨by first | omega | exact Nat.le_refl _⟩, ⟨by (with_reducible repeat (first | refine blk_drewN ?_ _ | refine blk_drew ?_ | refine blk_alloc ?_ _)); exact BK318.out⟩, ⟨by repeat (first | (with_reducible first | exact HB.out | apply below_alloc | apply pw_below_drewN | apply below_drew1 | refine below_set ?_ GE318.out) | exact HB.out)⟩⟩
        · rw [if_neg c8] at H
          have c8b0 : decide (a0_1 < 1) = false := decide_eq_false c8
          clear c8
          by_cases c10 : a0_1 > 1000
          · rw [if_pos c10] at H
            have c10b0 : decide (1000 < a0_1) = true := decide_eq_true c10
            clear c10
            have H' := Aside0.mk H
            clear H
            have hcz11_0 : w3.cell? ⟨gb318, 0, none⟩ = some (.int .i64 a0_0) := (blk_cell BK318.out 0).trans rfl
            have hcz11_1 : w3.cell? ⟨gb318, 1, none⟩ = some (.int .i64 a0_1) := (blk_cell BK318.out 1).trans rfl
            have hcz11_2 : w3.cell? ⟨gb318, 2, none⟩ = some (.int .i64 a0_2) := (blk_cell BK318.out 2).trans rfl
            have hcz11_3 : w3.cell? ⟨gb318, 3, none⟩ = some (.int .i64 a0_3) := (blk_cell BK318.out 3).trans rfl
            have hcz11_4 : w3.cell? ⟨gb318, 4, none⟩ = some (.slice A0_4 l0_4.length c0_4) := (blk_cell BK318.out 4).trans rfl
            have hcz11_5 : w3.cell? ⟨gb318, 5, none⟩ = some (.slice A0_5 l0_5.length c0_5) := (blk_cell BK318.out 5).trans rfl
            have hcz11_6 : w3.cell? ⟨gb318, 6, none⟩ = some (.slice A0_6 l0_6.length c0_6) := (blk_cell BK318.out 6).trans rfl
            have hfz11_0 := blk_frozen BK318.out 0
            have hfz11_1 := blk_frozen BK318.out 1
            have hfz11_2 := blk_frozen BK318.out 2
            have hfz11_3 := blk_frozen BK318.out 3
            have hfz11_4 := blk_frozen BK318.out 4
            have hfz11_5 := blk_frozen BK318.out 5
            have hfz11_6 := blk_frozen BK318.out 6
            go_wp2
            go_meet
            case rel => exact ⟨_, (true), (by first | rfl | (simp; done) | (simp [*]; done)), H', ⟨by first | omega | exact Nat.le_refl _⟩, ⟨by (with_reducible repeat (first | refine blk_drewN ?_ _ | refine blk_drew ?_ | refine blk_alloc ?_ _)); exact BK318.out⟩, ⟨by repeat (first | (with_reducible first | exact HB.out | apply below_alloc | apply pw_below_drewN | apply below_drew1 | refine below_set ?_ GE318.out) | exact HB.out)⟩⟩
          · rw [if_neg c10] at H
            have c10b0 : decide (1000 < a0_1) = false := decide_eq_false c10
            clear c10
            by_cases c12 : a0_2 < 0
            · rw [if_pos c12] at H
              have c12b0 : decide (a0_2 < 0) = true := decide_eq_true c12
              clear c12
              have H' := Aside0.mk H
              clear H
              have hcz13_0 : w3.cell? ⟨gb318, 0, none⟩ = some (.int .i64 a0_0) := (blk_cell BK318.out 0).trans rfl
              have hcz13_1 : w3.cell? ⟨gb318, 1, none⟩ = some (.int .i64 a0_1) := (blk_cell BK318.out 1).trans rfl
              have hcz13_2 : w3.cell? ⟨gb318, 2, none⟩ = some (.int .i64 a0_2) := (blk_cell BK318.out 2).trans rfl
              have hcz13_3 : w3.cell? ⟨gb318, 3, none⟩ = some (.int .i64 a0_3) := (blk_cell BK318.out 3).trans rfl
              have hcz13_4 : w3.cell? ⟨gb318, 4, none⟩ = some (.slice A0_4 l0_4.length c0_4) := (blk_cell BK318.out 4).trans rfl
              have hcz13_5 : w3.cell? ⟨gb318, 5, none⟩ = some (.slice A0_5 l0_5.length c0_5) := (blk_cell BK318.out 5).trans rfl
              have hcz13_6 : w3.cell? ⟨gb318, 6, none⟩ = some (.slice A0_6 l0_6.length c0_6) := (blk_cell BK318.out 6).trans rfl
              have hfz13_0 := blk_frozen BK318.out 0
              have hfz13_1 := blk_frozen BK318.out 1
              have hfz13_2 := blk_frozen BK318.out 2
              have hfz13_3 := blk_frozen BK318.out 3
              have hfz13_4 := blk_frozen BK318.out 4
              have hfz13_5 := blk_frozen BK318.out 5
              have hfz13_6 := blk_frozen BK318.out 6
              go_wp2
              go_meet
              case rel => exact ⟨_, (true), (by first | rfl | (simp; done) | (simp [*]; done)), H', ⟨by first | omega | exact Nat.le_refl _⟩, ⟨by (with_reducible repeat (first | refine blk_drewN ?_ _ | refine blk_drew ?_ | refine blk_alloc ?_ _)); exact BK318.out⟩, ⟨by repeat (first | (with_reducible first | exact HB.out | apply below_alloc | apply pw_below_drewN | apply below_drew1 | refine below_set ?_ GE318.out) | exact HB.out)⟩⟩
            · rw [if_neg c12] at H
              have c12b0 : decide (a0_2 < 0) = false := decide_eq_false c12
              clear c12
              have H' := Aside0.mk H
              clear H
              have hcz14_0 : w3.cell? ⟨gb318, 0, none⟩ = some (.int .i64 a0_0) := (blk_cell BK318.out 0).trans rfl
              have hcz14_1 : w3.cell? ⟨gb318, 1, none⟩ = some (.int .i64 a0_1) := (blk_cell BK318.out 1).trans rfl
              have hcz14_2 : w3.cell? ⟨gb318, 2, none⟩ = some (.int .i64 a0_2) := (blk_cell BK318.out 2).trans rfl
              have hcz14_3 : w3.cell? ⟨gb318, 3, none⟩ = some (.int .i64 a0_3) := (blk_cell BK318.out 3).trans rfl
              have hcz14_4 : w3.cell? ⟨gb318, 4, none⟩ = some (.slice A0_4 l0_4.length c0_4) := (blk_cell BK318.out 4).trans rfl
              have hcz14_5 : w3.cell? ⟨gb318, 5, none⟩ = some (.slice A0_5 l0_5.length c0_5) := (blk_cell BK318.out 5).trans rfl
              have hcz14_6 : w3.cell? ⟨gb318, 6, none⟩ = some (.slice A0_6 l0_6.length c0_6) := (blk_cell BK318.out 6).trans rfl
              have hfz14_0 := blk_frozen BK318.out 0
              have hfz14_1 := blk_frozen BK318.out 1
              have hfz14_2 := blk_frozen BK318.out 2
              have hfz14_3 := blk_frozen BK318.out 3
              have hfz14_4 := blk_frozen BK318.out 4
              have hfz14_5 := blk_frozen BK318.out 5
              have hfz14_6 := blk_frozen BK318.out 6
              go_wp2
              go_meet
              case rel => exact ⟨_, (decide (a0_2 > 10000)), (by first | rfl | (simp; done) | (simp [*]; done)), H', ⟨by first | omega | exact Nat.le_refl _⟩, ⟨by (with_reducible repeat (first | refine blk_drewN ?_ _ | refine blk_drew ?_ | refine blk_alloc ?_ _)); exact BK318.out⟩, ⟨by repeat (first | (with_reducible first | exact HB.out | apply below_alloc | apply pw_below_drewN | apply below_drew1 | refine below_set ?_ GE318.out) | exact HB.out)⟩⟩
  case rest =>
    clear HC2
    try clear c1
    try clear c2
    try clear p2
    try clear c4
    try clear c4b0
    try clear c6
    try clear c6b0
    try clear c8
    try clear c8b0
    try clear c10
    try clear c10b0
    try clear c12
    try clear c12b0
    try clear hcz11_0
    try clear hcz11_1
    try clear hcz11_2
    try clear hcz11_3
    try clear hcz11_4
    try clear hcz11_5
    try clear hcz11_6
    try clear hcz13_0
    try clear hcz13_1
    try clear hcz13_2
    try clear hcz13_3
    try clear hcz13_4
    try clear hcz13_5
    try clear hcz13_6
    try clear hcz14_0
    try clear hcz14_1
    try clear hcz14_2
    try clear hcz14_3
    try clear hcz14_4
    try clear hcz14_5
    try clear hcz14_6
    try clear hcz5_0
    try clear hcz5_1
    try clear hcz5_2
    try clear hcz5_3
    try clear hcz5_4
    try clear hcz5_5
    try clear hcz5_6
    try clear hcz7_0
    try clear hcz7_1
    try clear hcz7_2
    try clear hcz7_3
    try clear hcz7_4
    try clear hcz7_5
    try clear hcz7_6
    try clear hcz9_0
    try clear hcz9_1
    try clear hcz9_2
    try clear hcz9_3
    try clear hcz9_4
    try clear hcz9_5
    try clear hcz9_6
    try clear hfz11_0
    try clear hfz11_1
    try clear hfz11_2
    try clear hfz11_3
    try clear hfz11_4
    try clear hfz11_5
    try clear hfz11_6
    try clear hfz13_0
    try clear hfz13_1
    try clear hfz13_2
    try clear hfz13_3
    try clear hfz13_4
    try clear hfz13_5
    try clear hfz13_6
    try clear hfz14_0
    try clear hfz14_1
    try clear hfz14_2
    try clear hfz14_3
    try clear hfz14_4
    try clear hfz14_5
    try clear hfz14_6
    try clear hfz5_0
    try clear hfz5_1
    try clear hfz5_2
    try clear hfz5_3
    try clear hfz5_4
    try clear hfz5_5
    try clear hfz5_6
    try clear hfz7_0
    try clear hfz7_1
    try clear hfz7_2
    try clear hfz7_3
    try clear hfz7_4
    try clear hfz7_5
    try clear hfz7_6
    try clear hfz9_0
    try clear hfz9_1
    try clear hfz9_2
    try clear hfz9_3
    try clear hfz9_4
    try clear hfz9_5
    try clear hfz9_6
    obtain ⟨kq, x30_1, rfl, HA, HJ1, BK318, HB⟩ := hcut
    cases kq with
    | zero => exact absurd HA.out (by simp [posthornref21_Right.j0])
    | succ kj1 =>
      have H := HA.out
      clear HA
      simp only [posthornref21_Right.j0] at H
      by_cases c15 : x30_1 = true
      · subst c15
        have H1 : (some false) = some r := by rw [if_pos rfl] at H; exact H
        clear H
        have H := H1
        clear H1
        obtain rfl := Option.some.inj H
        go_wp2
        go_ret
        exact ⟨by first | rfl | (simp [errW_none, errW_some] <;> rfl) | (simp [*, errW_none, errW_some] <;> rfl), by repeat (first | (with_reducible first | exact HB.out | apply below_alloc | apply pw_below_drewN | apply below_drew1 | refine below_set ?_ GE318.out) | exact HB.out)⟩
      · replace c15 := Bool.eq_false_iff.mpr c15
        subst c15
        have H1 : (if a0_3 = (-1) then (posthornref21_Right.j1 kj1 false a0_0 a0_1 a0_2 a0_3 l0_4 l0_5 l0_6) else ((posthornref12_Time.f a0_3).bind fun t319 => (if t319 = true then (posthornref21_Right.j1 kj1 (decide (a0_2 > 0)) a0_0 a0_1 a0_2 a0_3 l0_4 l0_5 l0_6) else (posthornref21_Right.j1 kj1 true a0_0 a0_1 a0_2 a0_3 l0_4 l0_5 l0_6)))) = some r := by rw [if_neg (show ¬ (false = true) by decide)] at H; exact H
        clear H
        have H := H1
        clear H1
        have HC16 := Aside0.mk H
        clear H
        go_upto_region 3 with (fail)
        go_cut [49] (fun v49 wc => ∃ (kq : Nat) (x49_15 : Bool), v49 = .bool x49_15 ∧ Aside0 (posthornref21_Right.j1 kq x49_15 a0_0 a0_1 a0_2 a0_3 l0_4 l0_5 l0_6 = some r) ∧ Aside0 (kq ≤ kj1) ∧ Aside0 (wc.heap[gb318]? = some (.cells #[.int .i64 a0_0, .int .i64 a0_1, .int .i64 a0_2, .int .i64 a0_3, (.slice A0_4 l0_4.length c0_4), (.slice A0_5 l0_5.length c0_5), (.slice A0_6 l0_6.length c0_6)] 34 (0, 0))) ∧ Aside0 (Below w.heap.size w wc))
        case first =>
          have H := HC16.out
          clear HC16
          by_cases c17 : a0_3 = (-1)
          · rw [if_pos c17] at H
            have c17b0 : (a0_3 == (-1)) = true := beq_iff_eq.mpr c17
            have c17b1 : (a0_3 != (-1)) = false := bne_eq_false_iff_eq.mpr c17
            clear c17
            (first | rw [c17b0] | (simp only [i64_w, i32_w]; rw [c17b0]) | skip)
            have H' := Aside0.mk H
            clear H
            have hcz18_0 : wc.cell? ⟨gb318, 0, none⟩ = some (.int .i64 a0_0) := (blk_cell BK318.out 0).trans rfl
            have hcz18_1 : wc.cell? ⟨gb318, 1, none⟩ = some (.int .i64 a0_1) := (blk_cell BK318.out 1).trans rfl
            have hcz18_2 : wc.cell? ⟨gb318, 2, none⟩ = some (.int .i64 a0_2) := (blk_cell BK318.out 2).trans rfl
            have hcz18_3 : wc.cell? ⟨gb318, 3, none⟩ = some (.int .i64 a0_3) := (blk_cell BK318.out 3).trans rfl
            have hcz18_4 : wc.cell? ⟨gb318, 4, none⟩ = some (.slice A0_4 l0_4.length c0_4) := (blk_cell BK318.out 4).trans rfl
            have hcz18_5 : wc.cell? ⟨gb318, 5, none⟩ = some (.slice A0_5 l0_5.length c0_5) := (blk_cell BK318.out 5).trans rfl
            have hcz18_6 : wc.cell? ⟨gb318, 6, none⟩ = some (.slice A0_6 l0_6.length c0_6) := (blk_cell BK318.out 6).trans rfl
            have hfz18_0 := blk_frozen BK318.out 0
            have hfz18_1 := blk_frozen BK318.out 1
            have hfz18_2 := blk_frozen BK318.out 2
            have hfz18_3 := blk_frozen BK318.out 3
            have hfz18_4 := blk_frozen BK318.out 4
            have hfz18_5 := blk_frozen BK318.out 5
            have hfz18_6 := blk_frozen BK318.out 6
            go_wp2
            go_meet
            case rel => exact ⟨_, (false), (by first | rfl | (simp; done) | (simp [*]; done)), H', ⟨by have := HJ1.out; first | omega | exact Nat.le_refl _⟩, ⟨by (with_reducible repeat (first | refine blk_drewN ?_ _ | refine blk_drew ?_ | refine blk_alloc ?_ _)); exact BK318.out⟩, ⟨by repeat (first | (with_reducible first | exact HB.out | apply below_alloc | apply pw_below_drewN | apply below_drew1 | refine below_set ?_ GE318.out) | exact HB.out)⟩⟩
          · rw [if_neg c17] at H
            have c17b0 : (a0_3 == (-1)) = false := beq_eq_false_iff_ne.mpr c17
            have c17b1 : (a0_3 != (-1)) = true := bne_iff_ne.mpr c17
            (first | rw [c17b0] | (simp only [i64_w, i32_w]; rw [c17b0]) | skip)
            replace H := Option.bind_eq_some_iff.mp H
            obtain ⟨t319, A190, H⟩ := H
            replace H : (if t319 = true then (posthornref21_Right.j1 kj1 (decide (a0_2 > 0)) a0_0 a0_1 a0_2 a0_3 l0_4 l0_5 l0_6) else (posthornref21_Right.j1 kj1 true a0_0 a0_1 a0_2 a0_3 l0_4 l0_5 l0_6)) = some r := H
            have A19 := Aside0.mk A190
            clear A190
            by_cases c20 : t319 = true
            · subst c20
              have H1 : (posthornref21_Right.j1 kj1 (decide (a0_2 > 0)) a0_0 a0_1 a0_2 a0_3 l0_4 l0_5 l0_6) = some r := by rw [if_pos rfl] at H; exact H
              clear H
              have H := H1
              clear H1
              have H' := Aside0.mk H
              clear H
              have hcz21_0 : wc.cell? ⟨gb318, 0, none⟩ = some (.int .i64 a0_0) := (blk_cell BK318.out 0).trans rfl
              have hcz21_1 : wc.cell? ⟨gb318, 1, none⟩ = some (.int .i64 a0_1) := (blk_cell BK318.out 1).trans rfl
              have hcz21_2 : wc.cell? ⟨gb318, 2, none⟩ = some (.int .i64 a0_2) := (blk_cell BK318.out 2).trans rfl
              have hcz21_3 : wc.cell? ⟨gb318, 3, none⟩ = some (.int .i64 a0_3) := (blk_cell BK318.out 3).trans rfl
              have hcz21_4 : wc.cell? ⟨gb318, 4, none⟩ = some (.slice A0_4 l0_4.length c0_4) := (blk_cell BK318.out 4).trans rfl
              have hcz21_5 : wc.cell? ⟨gb318, 5, none⟩ = some (.slice A0_5 l0_5.length c0_5) := (blk_cell BK318.out 5).trans rfl
              have hcz21_6 : wc.cell? ⟨gb318, 6, none⟩ = some (.slice A0_6 l0_6.length c0_6) := (blk_cell BK318.out 6).trans rfl
              have hfz21_0 := blk_frozen BK318.out 0
              have hfz21_1 := blk_frozen BK318.out 1
              have hfz21_2 := blk_frozen BK318.out 2
              have hfz21_3 := blk_frozen BK318.out 3
              have hfz21_4 := blk_frozen BK318.out 4
              have hfz21_5 := blk_frozen BK318.out 5
              have hfz21_6 := blk_frozen BK318.out 6
              go_wp2_with (first | (go_at_call 31; (with_reducible refine (posthornref12_Time.calls a0_3 true _ A19.out).mono ?_); rintro e w' ⟨rfl, ⟨nd, rfl⟩⟩))
              go_meet
              case rel => exact ⟨_, (decide (a0_2 > 0)), (by first | rfl | (simp; done) | (simp [*]; done)), H', ⟨by have := HJ1.out; first | omega | exact Nat.le_refl _⟩, ⟨by (with_reducible repeat (first | refine blk_drewN ?_ _ | refine blk_drew ?_ | refine blk_alloc ?_ _)); exact BK318.out⟩, ⟨by repeat (first | (with_reducible first | exact HB.out | apply below_alloc | apply pw_below_drewN | apply below_drew1 | refine below_set ?_ GE318.out) | exact HB.out)⟩⟩
            · replace c20 := Bool.eq_false_iff.mpr c20
              subst c20
              have H1 : (posthornref21_Right.j1 kj1 true a0_0 a0_1 a0_2 a0_3 l0_4 l0_5 l0_6) = some r := by rw [if_neg (show ¬ (false = true) by decide)] at H; exact H
              clear H
              have H := H1
              clear H1
              have H' := Aside0.mk H
              clear H
              have hcz22_0 : wc.cell? ⟨gb318, 0, none⟩ = some (.int .i64 a0_0) := (blk_cell BK318.out 0).trans rfl
              have hcz22_1 : wc.cell? ⟨gb318, 1, none⟩ = some (.int .i64 a0_1) := (blk_cell BK318.out 1).trans rfl
              have hcz22_2 : wc.cell? ⟨gb318, 2, none⟩ = some (.int .i64 a0_2) := (blk_cell BK318.out 2).trans rfl
              have hcz22_3 : wc.cell? ⟨gb318, 3, none⟩ = some (.int .i64 a0_3) := (blk_cell BK318.out 3).trans rfl
              have hcz22_4 : wc.cell? ⟨gb318, 4, none⟩ = some (.slice A0_4 l0_4.length c0_4) := (blk_cell BK318.out 4).trans rfl
              have hcz22_5 : wc.cell? ⟨gb318, 5, none⟩ = some (.slice A0_5 l0_5.length c0_5) := (blk_cell BK318.out 5).trans rfl
              have hcz22_6 : wc.cell? ⟨gb318, 6, none⟩ = some (.slice A0_6 l0_6.length c0_6) := (blk_cell BK318.out 6).trans rfl
              have hfz22_0 := blk_frozen BK318.out 0
              have hfz22_1 := blk_frozen BK318.out 1
              have hfz22_2 := blk_frozen BK318.out 2
              have hfz22_3 := blk_frozen BK318.out 3
              have hfz22_4 := blk_frozen BK318.out 4
              have hfz22_5 := blk_frozen BK318.out 5
              have hfz22_6 := blk_frozen BK318.out 6
              go_wp2_with (first | (go_at_call 31; (with_reducible refine (posthornref12_Time.calls a0_3 false _ A19.out).mono ?_); rintro e w' ⟨rfl, ⟨nd, rfl⟩⟩))
              go_meet
              case rel => exact ⟨_, (true), (by first | rfl | (simp; done) | (simp [*]; done)), H', ⟨by have := HJ1.out; first | omega | exact Nat.le_refl _⟩, ⟨by (with_reducible repeat (first | refine blk_drewN ?_ _ | refine blk_drew ?_ | refine blk_alloc ?_ _)); exact BK318.out⟩, ⟨by repeat (first | (with_reducible first | exact HB.out | apply below_alloc | apply pw_below_drewN | apply below_drew1 | refine below_set ?_ GE318.out) | exact HB.out)⟩⟩
        case rest =>
          clear HC16
          try clear c1
          try clear c2
          try clear p2
          try clear c4
          try clear c4b0
          try clear c6
          try clear c6b0
          try clear c8
          try clear c8b0
          try clear c10
          try clear c10b0
          try clear c12
          try clear c12b0
          try clear c15
          try clear c17
          try clear c17b0
          try clear c17b1
          try clear c20
          try clear hcz11_0
          try clear hcz11_1
          try clear hcz11_2
          try clear hcz11_3
          try clear hcz11_4
          try clear hcz11_5
          try clear hcz11_6
          try clear hcz13_0
          try clear hcz13_1
          try clear hcz13_2
          try clear hcz13_3
          try clear hcz13_4
          try clear hcz13_5
          try clear hcz13_6
          try clear hcz14_0
          try clear hcz14_1
          try clear hcz14_2
          try clear hcz14_3
          try clear hcz14_4
          try clear hcz14_5
          try clear hcz14_6
          try clear hcz18_0
          try clear hcz18_1
          try clear hcz18_2
          try clear hcz18_3
          try clear hcz18_4
          try clear hcz18_5
          try clear hcz18_6
          try clear hcz21_0
          try clear hcz21_1
          try clear hcz21_2
          try clear hcz21_3
          try clear hcz21_4
          try clear hcz21_5
          try clear hcz21_6
          try clear hcz22_0
          try clear hcz22_1
          try clear hcz22_2
          try clear hcz22_3
          try clear hcz22_4
          try clear hcz22_5
          try clear hcz22_6
          try clear hcz5_0
          try clear hcz5_1
          try clear hcz5_2
          try clear hcz5_3
          try clear hcz5_4
          try clear hcz5_5
          try clear hcz5_6
          try clear hcz7_0
          try clear hcz7_1
          try clear hcz7_2
          try clear hcz7_3
          try clear hcz7_4
          try clear hcz7_5
          try clear hcz7_6
          try clear hcz9_0
          try clear hcz9_1
          try clear hcz9_2
          try clear hcz9_3
          try clear hcz9_4
          try clear hcz9_5
          try clear hcz9_6
          try clear hfz11_0
          try clear hfz11_1
          try clear hfz11_2
          try clear hfz11_3
          try clear hfz11_4
          try clear hfz11_5
          try clear hfz11_6
          try clear hfz13_0
          try clear hfz13_1
          try clear hfz13_2
          try clear hfz13_3
          try clear hfz13_4
          try clear hfz13_5
          try clear hfz13_6
          try clear hfz14_0
          try clear hfz14_1
          try clear hfz14_2
          try clear hfz14_3
          try clear hfz14_4
          try clear hfz14_5
          try clear hfz14_6
          try clear hfz18_0
          try clear hfz18_1
          try clear hfz18_2
          try clear hfz18_3
          try clear hfz18_4
          try clear hfz18_5
          try clear hfz18_6
          try clear hfz21_0
          try clear hfz21_1
          try clear hfz21_2
          try clear hfz21_3
          try clear hfz21_4
          try clear hfz21_5
          try clear hfz21_6
          try clear hfz22_0
          try clear hfz22_1
          try clear hfz22_2
          try clear hfz22_3
          try clear hfz22_4
          try clear hfz22_5
          try clear hfz22_6
          try clear hfz5_0
          try clear hfz5_1
          try clear hfz5_2
          try clear hfz5_3
          try clear hfz5_4
          try clear hfz5_5
          try clear hfz5_6
          try clear hfz7_0
          try clear hfz7_1
          try clear hfz7_2
          try clear hfz7_3
          try clear hfz7_4
          try clear hfz7_5
          try clear hfz7_6
          try clear hfz9_0
          try clear hfz9_1
          try clear hfz9_2
          try clear hfz9_3
          try clear hfz9_4
          try clear hfz9_5
          try clear hfz9_6
          try clear p2
          obtain ⟨kq, x49_15, rfl, HA, HJ15, BK318, HB⟩ := hcut
          cases kq with
          | zero => exact absurd HA.out (by simp [posthornref21_Right.j1])
          | succ kj15 =>
            have H := HA.out
            clear HA
            simp only [posthornref21_Right.j1] at H
            by_cases c23 : x49_15 = true
            · subst c23
              have H1 : (some false) = some r := by rw [if_pos rfl] at H; exact H
              clear H
              have H := H1
              clear H1
              obtain rfl := Option.some.inj H
              go_wp2
              go_ret
              exact ⟨by first | rfl | (simp [errW_none, errW_some] <;> rfl) | (simp [*, errW_none, errW_some] <;> rfl), by repeat (first | (with_reducible first | exact HB.out | apply below_alloc | apply pw_below_drewN | apply below_drew1 | refine below_set ?_ GE318.out) | exact HB.out)⟩
            · replace c23 := Bool.eq_false_iff.mpr c23
              subst c23
              have H1 : (if a0_0 ≤ 2 then (posthornref21_Right.j2 kj15 (decide ((l0_5.length : Int) > 0)) a0_0 a0_1 a0_2 a0_3 l0_4 l0_5 l0_6) else (posthornref21_Right.j2 kj15 false a0_0 a0_1 a0_2 a0_3 l0_4 l0_5 l0_6)) = some r := by rw [if_neg (show ¬ (false = true) by decide)] at H; exact H
              clear H
              have H := H1
              clear H1
              have HC24 := Aside0.mk H
              clear H
              go_upto_region 5 with (fail)
              go_cut [58] (fun v58 wc => ∃ (kq : Nat) (x58_23 : Bool), v58 = .bool x58_23 ∧ Aside0 (posthornref21_Right.j2 kq x58_23 a0_0 a0_1 a0_2 a0_3 l0_4 l0_5 l0_6 = some r) ∧ Aside0 (kq ≤ kj15) ∧ Aside0 (wc.heap[gb318]? = some (.cells #[.int .i64 a0_0, .int .i64 a0_1, .int .i64 a0_2, .int .i64 a0_3, (.slice A0_4 l0_4.length c0_4), (.slice A0_5 l0_5.length c0_5), (.slice A0_6 l0_6.length c0_6)] 34 (0, 0))) ∧ Aside0 (Below w.heap.size w wc))
              case first =>
                have H := HC24.out
                clear HC24
                by_cases c25 : a0_0 ≤ 2
                · rw [if_pos c25] at H
                  have c25b0 : decide (a0_0 ≤ 2) = true := decide_eq_true c25
                  clear c25
                  (first | rw [c25b0] | (simp only [i64_w, i32_w]; rw [c25b0]) | skip)
                  have H' := Aside0.mk H
                  clear H
                  have hcz26_0 : wc.cell? ⟨gb318, 0, none⟩ = some (.int .i64 a0_0) := (blk_cell BK318.out 0).trans rfl
                  have hcz26_1 : wc.cell? ⟨gb318, 1, none⟩ = some (.int .i64 a0_1) := (blk_cell BK318.out 1).trans rfl
                  have hcz26_2 : wc.cell? ⟨gb318, 2, none⟩ = some (.int .i64 a0_2) := (blk_cell BK318.out 2).trans rfl
                  have hcz26_3 : wc.cell? ⟨gb318, 3, none⟩ = some (.int .i64 a0_3) := (blk_cell BK318.out 3).trans rfl
                  have hcz26_4 : wc.cell? ⟨gb318, 4, none⟩ = some (.slice A0_4 l0_4.length c0_4) := (blk_cell BK318.out 4).trans rfl
                  have hcz26_5 : wc.cell? ⟨gb318, 5, none⟩ = some (.slice A0_5 l0_5.length c0_5) := (blk_cell BK318.out 5).trans rfl
                  have hcz26_6 : wc.cell? ⟨gb318, 6, none⟩ = some (.slice A0_6 l0_6.length c0_6) := (blk_cell BK318.out 6).trans rfl
                  have hfz26_0 := blk_frozen BK318.out 0
                  have hfz26_1 := blk_frozen BK318.out 1
                  have hfz26_2 := blk_frozen BK318.out 2
                  have hfz26_3 := blk_frozen BK318.out 3
                  have hfz26_4 := blk_frozen BK318.out 4
                  have hfz26_5 := blk_frozen BK318.out 5
                  have hfz26_6 := blk_frozen BK318.out 6
                  go_wp2
                  go_meet
                  case rel => exact ⟨_, (decide ((l0_5.length : Int) > 0)), (by first | rfl | (simp; done) | (simp [*]; done)), H', ⟨by have := HJ1.out; have := HJ15.out; first | omega | exact Nat.le_refl _⟩, ⟨by (with_reducible repeat (first | refine blk_drewN ?_ _ | refine blk_drew ?_ | refine blk_alloc ?_ _)); exact BK318.out⟩, ⟨by repeat (first | (with_reducible first | exact HB.out | apply below_alloc | apply pw_below_drewN | apply below_drew1 | refine below_set ?_ GE318.out) | exact HB.out)⟩⟩
                · rw [if_neg c25] at H
                  have c25b0 : decide (a0_0 ≤ 2) = false := decide_eq_false c25
                  clear c25
                  (first | rw [c25b0] | (simp only [i64_w, i32_w]; rw [c25b0]) | skip)
                  have H' := Aside0.mk H
                  clear H
                  have hcz27_0 : wc.cell? ⟨gb318, 0, none⟩ = some (.int .i64 a0_0) := (blk_cell BK318.out 0).trans rfl
                  have hcz27_1 : wc.cell? ⟨gb318, 1, none⟩ = some (.int .i64 a0_1) := (blk_cell BK318.out 1).trans rfl
                  have hcz27_2 : wc.cell? ⟨gb318, 2, none⟩ = some (.int .i64 a0_2) := (blk_cell BK318.out 2).trans rfl
                  have hcz27_3 : wc.cell? ⟨gb318, 3, none⟩ = some (.int .i64 a0_3) := (blk_cell BK318.out 3).trans rfl
                  have hcz27_4 : wc.cell? ⟨gb318, 4, none⟩ = some (.slice A0_4 l0_4.length c0_4) := (blk_cell BK318.out 4).trans rfl
                  have hcz27_5 : wc.cell? ⟨gb318, 5, none⟩ = some (.slice A0_5 l0_5.length c0_5) := (blk_cell BK318.out 5).trans rfl
                  have hcz27_6 : wc.cell? ⟨gb318, 6, none⟩ = some (.slice A0_6 l0_6.length c0_6) := (blk_cell BK318.out 6).trans rfl
                  have hfz27_0 := blk_frozen BK318.out 0
                  have hfz27_1 := blk_frozen BK318.out 1
                  have hfz27_2 := blk_frozen BK318.out 2
                  have hfz27_3 := blk_frozen BK318.out 3
                  have hfz27_4 := blk_frozen BK318.out 4
                  have hfz27_5 := blk_frozen BK318.out 5
                  have hfz27_6 := blk_frozen BK318.out 6
                  go_wp2
                  go_meet
                  case rel => exact ⟨_, (false), (by first | rfl | (simp; done) | (simp [*]; done)), H', ⟨by have := HJ1.out; have := HJ15.out; first | omega | exact Nat.le_refl _⟩, ⟨by (with_reducible repeat (first | refine blk_drewN ?_ _ | refine blk_drew ?_ | refine blk_alloc ?_ _)); exact BK318.out⟩, ⟨by repeat (first | (with_reducible first | exact HB.out | apply below_alloc | apply pw_below_drewN | apply below_drew1 | refine below_set ?_ GE318.out) | exact HB.out)⟩⟩
              case rest =>
                clear HC24
                try clear c1
                try clear c2
                try clear p2
                try clear c4
                try clear c4b0
                try clear c6
                try clear c6b0
                try clear c8
                try clear c8b0
                try clear c10
                try clear c10b0
                try clear c12
                try clear c12b0
                try clear c15
                try clear c17
                try clear c17b0
                try clear c17b1
                try clear c20
                try clear c23
                try clear c25
                try clear c25b0
                try clear hcz11_0
                try clear hcz11_1
                try clear hcz11_2
                try clear hcz11_3
                try clear hcz11_4
                try clear hcz11_5
                try clear hcz11_6
                try clear hcz13_0
                try clear hcz13_1
                try clear hcz13_2
                try clear hcz13_3
                try clear hcz13_4
                try clear hcz13_5
                try clear hcz13_6
                try clear hcz14_0
                try clear hcz14_1
                try clear hcz14_2
                try clear hcz14_3
                try clear hcz14_4
                try clear hcz14_5
                try clear hcz14_6
                try clear hcz18_0
                try clear hcz18_1
                try clear hcz18_2
                try clear hcz18_3
                try clear hcz18_4
                try clear hcz18_5
                try clear hcz18_6
                try clear hcz21_0
                try clear hcz21_1
                try clear hcz21_2
                try clear hcz21_3
                try clear hcz21_4
                try clear hcz21_5
                try clear hcz21_6
                try clear hcz22_0
                try clear hcz22_1
                try clear hcz22_2
                try clear hcz22_3
                try clear hcz22_4
                try clear hcz22_5
                try clear hcz22_6
                try clear hcz26_0
                try clear hcz26_1
                try clear hcz26_2
                try clear hcz26_3
                try clear hcz26_4
                try clear hcz26_5
                try clear hcz26_6
                try clear hcz27_0
                try clear hcz27_1
                try clear hcz27_2
                try clear hcz27_3
                try clear hcz27_4
                try clear hcz27_5
                try clear hcz27_6
                try clear hcz5_0
                try clear hcz5_1
                try clear hcz5_2
                try clear hcz5_3
                try clear hcz5_4
                try clear hcz5_5
                try clear hcz5_6
                try clear hcz7_0
                try clear hcz7_1
                try clear hcz7_2
                try clear hcz7_3
                try clear hcz7_4
                try clear hcz7_5
                try clear hcz7_6
                try clear hcz9_0
                try clear hcz9_1
                try clear hcz9_2
                try clear hcz9_3
                try clear hcz9_4
                try clear hcz9_5
                try clear hcz9_6
                try clear hfz11_0
                try clear hfz11_1
                try clear hfz11_2
                try clear hfz11_3
                try clear hfz11_4
                try clear hfz11_5
                try clear hfz11_6
                try clear hfz13_0
                try clear hfz13_1
                try clear hfz13_2
                try clear hfz13_3
                try clear hfz13_4
                try clear hfz13_5
                try clear hfz13_6
                try clear hfz14_0
                try clear hfz14_1
                try clear hfz14_2
                try clear hfz14_3
                try clear hfz14_4
                try clear hfz14_5
                try clear hfz14_6
                try clear hfz18_0
                try clear hfz18_1
                try clear hfz18_2
                try clear hfz18_3
                try clear hfz18_4
                try clear hfz18_5
                try clear hfz18_6
                try clear hfz21_0
                try clear hfz21_1
                try clear hfz21_2
                try clear hfz21_3
                try clear hfz21_4
                try clear hfz21_5
                try clear hfz21_6
                try clear hfz22_0
                try clear hfz22_1
                try clear hfz22_2
                try clear hfz22_3
                try clear hfz22_4
                try clear hfz22_5
                try clear hfz22_6
                try clear hfz26_0
                try clear hfz26_1
                try clear hfz26_2
                try clear hfz26_3
                try clear hfz26_4
                try clear hfz26_5
                try clear hfz26_6
                try clear hfz27_0
                try clear hfz27_1
                try clear hfz27_2
                try clear hfz27_3
                try clear hfz27_4
                try clear hfz27_5
                try clear hfz27_6
                try clear hfz5_0
                try clear hfz5_1
                try clear hfz5_2
                try clear hfz5_3
                try clear hfz5_4
                try clear hfz5_5
                try clear hfz5_6
                try clear hfz7_0
                try clear hfz7_1
                try clear hfz7_2
                try clear hfz7_3
                try clear hfz7_4
                try clear hfz7_5
                try clear hfz7_6
                try clear hfz9_0
                try clear hfz9_1
                try clear hfz9_2
                try clear hfz9_3
                try clear hfz9_4
                try clear hfz9_5
                try clear hfz9_6
                try clear p2
                obtain ⟨kq, x58_23, rfl, HA, HJ23, BK318, HB⟩ := hcut
                cases kq with
                | zero => exact absurd HA.out (by simp [posthornref21_Right.j2])
                | succ kj23 =>
                  have H := HA.out
                  clear HA
                  simp only [posthornref21_Right.j2] at H
                  by_cases c28 : x58_23 = true
                  · subst c28
                    have H1 : (some false) = some r := by rw [if_pos rfl] at H; exact H
                    clear H
                    have H := H1
                    clear H1
                    obtain rfl := Option.some.inj H
                    go_wp2
                    go_ret
                    exact ⟨by first | rfl | (simp [errW_none, errW_some] <;> rfl) | (simp [*, errW_none, errW_some] <;> rfl), by repeat (first | (with_reducible first | exact HB.out | apply below_alloc | apply pw_below_drewN | apply below_drew1 | refine below_set ?_ GE318.out) | exact HB.out)⟩
                  · replace c28 := Bool.eq_false_iff.mpr c28
                    subst c28
                    have H1 : ((posthornref21_list.f kj23 l0_4 1 12).bind fun t320 => (if t320 = true then ((posthornref21_list.f kj23 l0_5 (-31) 31).bind fun t321 => (if t321 = true then ((posthornref21_week.f kj23 l0_6 (decide (a0_0 ≥ 3))).bind fun t322 => (some t322)) else (some false))) else (some false))) = some r := by rw [if_neg (show ¬ (false = true) by decide)] at H; exact H
                    clear H
                    have H := H1
                    clear H1
                    replace H := Option.bind_eq_some_iff.mp H
                    obtain ⟨t320, A290, H⟩ := H
                    replace H : (if t320 = true then ((posthornref21_list.f kj23 l0_5 (-31) 31).bind fun t321 => (if t321 = true then ((posthornref21_week.f kj23 l0_6 (decide (a0_0 ≥ 3))).bind fun t322 => (some t322)) else (some false))) else (some false)) = some r := H
                    have A29 := Aside0.mk A290
                    clear A290
                    by_cases c30 : t320 = true
                    · subst c30
                      have H1 : ((posthornref21_list.f kj23 l0_5 (-31) 31).bind fun t321 => (if t321 = true then ((posthornref21_week.f kj23 l0_6 (decide (a0_0 ≥ 3))).bind fun t322 => (some t322)) else (some false))) = some r := by rw [if_pos rfl] at H; exact H
                      clear H
                      have H := H1
                      clear H1
                      replace H := Option.bind_eq_some_iff.mp H
                      obtain ⟨t321, A310, H⟩ := H
                      replace H : (if t321 = true then ((posthornref21_week.f kj23 l0_6 (decide (a0_0 ≥ 3))).bind fun t322 => (some t322)) else (some false)) = some r := H
                      have A31 := Aside0.mk A310
                      clear A310
                      by_cases c32 : t321 = true
                      · subst c32
                        have H1 : ((posthornref21_week.f kj23 l0_6 (decide (a0_0 ≥ 3))).bind fun t322 => (some t322)) = some r := by rw [if_pos rfl] at H; exact H
                        clear H
                        have H := H1
                        clear H1
                        replace H := Option.bind_eq_some_iff.mp H
                        obtain ⟨t322, A330, H⟩ := H
                        replace H : (some t322) = some r := H
                        have A33 := Aside0.mk A330
                        clear A330
                        obtain rfl := Option.some.inj H
                        have hcz34_0 : wc.cell? ⟨gb318, 0, none⟩ = some (.int .i64 a0_0) := (blk_cell BK318.out 0).trans rfl
                        have hcz34_1 : wc.cell? ⟨gb318, 1, none⟩ = some (.int .i64 a0_1) := (blk_cell BK318.out 1).trans rfl
                        have hcz34_2 : wc.cell? ⟨gb318, 2, none⟩ = some (.int .i64 a0_2) := (blk_cell BK318.out 2).trans rfl
                        have hcz34_3 : wc.cell? ⟨gb318, 3, none⟩ = some (.int .i64 a0_3) := (blk_cell BK318.out 3).trans rfl
                        have hcz34_4 : wc.cell? ⟨gb318, 4, none⟩ = some (.slice A0_4 l0_4.length c0_4) := (blk_cell BK318.out 4).trans rfl
                        have hcz34_5 : wc.cell? ⟨gb318, 5, none⟩ = some (.slice A0_5 l0_5.length c0_5) := (blk_cell BK318.out 5).trans rfl
                        have hcz34_6 : wc.cell? ⟨gb318, 6, none⟩ = some (.slice A0_6 l0_6.length c0_6) := (blk_cell BK318.out 6).trans rfl
                        have hfz34_0 := blk_frozen BK318.out 0
                        have hfz34_1 := blk_frozen BK318.out 1
                        have hfz34_2 := blk_frozen BK318.out 2
                        have hfz34_3 := blk_frozen BK318.out 3
                        have hfz34_4 := blk_frozen BK318.out 4
                        have hfz34_5 := blk_frozen BK318.out 5
                        have hfz34_6 := blk_frozen BK318.out 6
                        go_wp2_with (first | ((with_reducible refine gate_callee (f := 53) rfl ?_); refine goesL_ (some 61) rfl rfl Tryz.func53 (by kernel_rfl) rfl #[.slice A0_4 l0_4.length c0_4, .int .i64 1, .int .i64 12] rfl (by (try simp only [List.map_toArray, List.map_cons, List.map_nil]); first | done | rfl | (simp only [List.length_drop, List.length_take]; rfl)) ?_; (with_reducible refine (posthornref21_list.calls kj23 _ _ l0_4 1 12 true _ ?side1 ?side2 A29.out).mono ?_); (case side1 => repeat (first | exact (Kd.C_below HR0_4.out HB.out) | (with_reducible refine Kd.C_alloc ?_ _) | (with_reducible refine Kd.C_drewN ?_ _) | (with_reducible refine Kd.C_drew ?_))); (case side2 => exact HC0_4.out); rintro e w' ⟨rfl, ⟨nd, rfl⟩⟩; refine ⟨_, rfl, ?_⟩) | (go_at_call 53; (with_reducible refine (posthornref21_list.calls kj23 _ _ l0_5 (-31) 31 true _ ?side1 ?side2 A31.out).mono ?_); (case side1 => repeat (first | exact (Kd.C_below HR0_5.out (by repeat (first | (with_reducible first | exact HB.out | apply below_alloc | apply pw_below_drewN | apply below_drew1 | refine below_set ?_ GE318.out) | exact HB.out))) | (with_reducible refine Kd.C_alloc ?_ _) | (with_reducible refine Kd.C_drewN ?_ _) | (with_reducible refine Kd.C_drew ?_))); (case side2 => exact HC0_5.out); rintro e w' ⟨rfl, ⟨nd, rfl⟩⟩) | (go_at_call 54; (with_reducible refine (posthornref21_week.calls kj23 _ _ l0_6 (decide (a0_0 ≥ 3)) t322 _ ?side1 ?side2 A33.out).mono ?_); (case side1 => repeat (first | exact (Kd.C_below HR0_6.out (by repeat (first | (with_reducible first | exact HB.out | apply below_alloc | apply pw_below_drewN | apply below_drew1 | refine below_set ?_ GE318.out) | exact HB.out))) | (with_reducible refine Kd.C_alloc ?_ _) | (with_reducible refine Kd.C_drewN ?_ _) | (with_reducible refine Kd.C_drew ?_))); (case side2 => exact HC0_6.out); rintro e w35 ⟨rfl, hb⟩; have n0_ := Aside0.mk (blk_below (g := gb318) (o := .cells #[.int .i64 a0_0, .int .i64 a0_1, .int .i64 a0_2, .int .i64 a0_3, .slice A0_4 l0_4.length c0_4, .slice A0_5 l0_5.length c0_5, .slice A0_6 l0_6.length c0_6] 34 (0, 0)) (by (with_reducible repeat (first | refine blk_drewN ?_ _ | refine blk_drew ?_ | refine blk_alloc ?_ _)); exact BK318.out) hb); have n1_ := Aside0.mk (below_step (by repeat (first | (with_reducible first | exact HB.out | apply below_alloc | apply pw_below_drewN | apply below_drew1 | refine below_set ?_ GE318.out) | exact HB.out)) hb); clear BK318; clear HB; have BK318 := n0_; have HB := n1_; clear n0_ n1_; (try clear hb); (try clear hb2); (try clear hk); (try clear hi)))
                        go_ret
                        exact ⟨by first | rfl | (simp [errW_none, errW_some] <;> rfl) | (simp [*, errW_none, errW_some] <;> rfl), by repeat (first | (with_reducible first | exact HB.out | apply below_alloc | apply pw_below_drewN | apply below_drew1 | refine below_set ?_ GE318.out) | exact HB.out)⟩
                      · replace c32 := Bool.eq_false_iff.mpr c32
                        subst c32
                        have H1 : (some false) = some r := by rw [if_neg (show ¬ (false = true) by decide)] at H; exact H
                        clear H
                        have H := H1
                        clear H1
                        obtain rfl := Option.some.inj H
                        have hcz36_0 : wc.cell? ⟨gb318, 0, none⟩ = some (.int .i64 a0_0) := (blk_cell BK318.out 0).trans rfl
                        have hcz36_1 : wc.cell? ⟨gb318, 1, none⟩ = some (.int .i64 a0_1) := (blk_cell BK318.out 1).trans rfl
                        have hcz36_2 : wc.cell? ⟨gb318, 2, none⟩ = some (.int .i64 a0_2) := (blk_cell BK318.out 2).trans rfl
                        have hcz36_3 : wc.cell? ⟨gb318, 3, none⟩ = some (.int .i64 a0_3) := (blk_cell BK318.out 3).trans rfl
                        have hcz36_4 : wc.cell? ⟨gb318, 4, none⟩ = some (.slice A0_4 l0_4.length c0_4) := (blk_cell BK318.out 4).trans rfl
                        have hcz36_5 : wc.cell? ⟨gb318, 5, none⟩ = some (.slice A0_5 l0_5.length c0_5) := (blk_cell BK318.out 5).trans rfl
                        have hcz36_6 : wc.cell? ⟨gb318, 6, none⟩ = some (.slice A0_6 l0_6.length c0_6) := (blk_cell BK318.out 6).trans rfl
                        have hfz36_0 := blk_frozen BK318.out 0
                        have hfz36_1 := blk_frozen BK318.out 1
                        have hfz36_2 := blk_frozen BK318.out 2
                        have hfz36_3 := blk_frozen BK318.out 3
                        have hfz36_4 := blk_frozen BK318.out 4
                        have hfz36_5 := blk_frozen BK318.out 5
                        have hfz36_6 := blk_frozen BK318.out 6
                        go_wp2_with (first | ((with_reducible refine gate_callee (f := 53) rfl ?_); refine goesL_ (some 61) rfl rfl Tryz.func53 (by kernel_rfl) rfl #[.slice A0_4 l0_4.length c0_4, .int .i64 1, .int .i64 12] rfl (by (try simp only [List.map_toArray, List.map_cons, List.map_nil]); first | done | rfl | (simp only [List.length_drop, List.length_take]; rfl)) ?_; (with_reducible refine (posthornref21_list.calls kj23 _ _ l0_4 1 12 true _ ?side1 ?side2 A29.out).mono ?_); (case side1 => repeat (first | exact (Kd.C_below HR0_4.out HB.out) | (with_reducible refine Kd.C_alloc ?_ _) | (with_reducible refine Kd.C_drewN ?_ _) | (with_reducible refine Kd.C_drew ?_))); (case side2 => exact HC0_4.out); rintro e w' ⟨rfl, ⟨nd, rfl⟩⟩; refine ⟨_, rfl, ?_⟩) | (go_at_call 53; (with_reducible refine (posthornref21_list.calls kj23 _ _ l0_5 (-31) 31 false _ ?side1 ?side2 A31.out).mono ?_); (case side1 => repeat (first | exact (Kd.C_below HR0_5.out (by repeat (first | (with_reducible first | exact HB.out | apply below_alloc | apply pw_below_drewN | apply below_drew1 | refine below_set ?_ GE318.out) | exact HB.out))) | (with_reducible refine Kd.C_alloc ?_ _) | (with_reducible refine Kd.C_drewN ?_ _) | (with_reducible refine Kd.C_drew ?_))); (case side2 => exact HC0_5.out); rintro e w' ⟨rfl, ⟨nd, rfl⟩⟩))
                        go_ret
                        exact ⟨by first | rfl | (simp [errW_none, errW_some] <;> rfl) | (simp [*, errW_none, errW_some] <;> rfl), by repeat (first | (with_reducible first | exact HB.out | apply below_alloc | apply pw_below_drewN | apply below_drew1 | refine below_set ?_ GE318.out) | exact HB.out)⟩
                    · replace c30 := Bool.eq_false_iff.mpr c30
                      subst c30
                      have H1 : (some false) = some r := by rw [if_neg (show ¬ (false = true) by decide)] at H; exact H
                      clear H
                      have H := H1
                      clear H1
                      obtain rfl := Option.some.inj H
                      have hcz37_0 : wc.cell? ⟨gb318, 0, none⟩ = some (.int .i64 a0_0) := (blk_cell BK318.out 0).trans rfl
                      have hcz37_1 : wc.cell? ⟨gb318, 1, none⟩ = some (.int .i64 a0_1) := (blk_cell BK318.out 1).trans rfl
                      have hcz37_2 : wc.cell? ⟨gb318, 2, none⟩ = some (.int .i64 a0_2) := (blk_cell BK318.out 2).trans rfl
                      have hcz37_3 : wc.cell? ⟨gb318, 3, none⟩ = some (.int .i64 a0_3) := (blk_cell BK318.out 3).trans rfl
                      have hcz37_4 : wc.cell? ⟨gb318, 4, none⟩ = some (.slice A0_4 l0_4.length c0_4) := (blk_cell BK318.out 4).trans rfl
                      have hcz37_5 : wc.cell? ⟨gb318, 5, none⟩ = some (.slice A0_5 l0_5.length c0_5) := (blk_cell BK318.out 5).trans rfl
                      have hcz37_6 : wc.cell? ⟨gb318, 6, none⟩ = some (.slice A0_6 l0_6.length c0_6) := (blk_cell BK318.out 6).trans rfl
                      have hfz37_0 := blk_frozen BK318.out 0
                      have hfz37_1 := blk_frozen BK318.out 1
                      have hfz37_2 := blk_frozen BK318.out 2
                      have hfz37_3 := blk_frozen BK318.out 3
                      have hfz37_4 := blk_frozen BK318.out 4
                      have hfz37_5 := blk_frozen BK318.out 5
                      have hfz37_6 := blk_frozen BK318.out 6
                      go_wp2_with (first | ((with_reducible refine gate_callee (f := 53) rfl ?_); refine goesL_ (some 61) rfl rfl Tryz.func53 (by kernel_rfl) rfl #[.slice A0_4 l0_4.length c0_4, .int .i64 1, .int .i64 12] rfl (by (try simp only [List.map_toArray, List.map_cons, List.map_nil]); first | done | rfl | (simp only [List.length_drop, List.length_take]; rfl)) ?_; (with_reducible refine (posthornref21_list.calls kj23 _ _ l0_4 1 12 false _ ?side1 ?side2 A29.out).mono ?_); (case side1 => repeat (first | exact (Kd.C_below HR0_4.out HB.out) | (with_reducible refine Kd.C_alloc ?_ _) | (with_reducible refine Kd.C_drewN ?_ _) | (with_reducible refine Kd.C_drew ?_))); (case side2 => exact HC0_4.out); rintro e w' ⟨rfl, ⟨nd, rfl⟩⟩; refine ⟨_, rfl, ?_⟩))
                      go_ret
                      exact ⟨by first | rfl | (simp [errW_none, errW_some] <;> rfl) | (simp [*, errW_none, errW_some] <;> rfl), by repeat (first | (with_reducible first | exact HB.out | apply below_alloc | apply pw_below_drewN | apply below_drew1 | refine below_set ?_ GE318.out) | exact HB.out)⟩
end Go.Proofs.YtfbmjonhohebiaaGreatDoor.PRecurExpands
end
section
set_option linter.unusedVariables false
set_option linter.unusedSimpArgs false
namespace Go.Proofs.YtfbmjonhohebiaaGreatDoor
open Go.RowKit Go.Proofs.YtfbmjonhohebiaaGreatDoorW.PrintWords Go.Proofs.YtfbmjonhohebiaaGreatDoorW.PrintLast Go.Proofs.YtfbmjonhohebiaaGreatDoorW.PrintMore PRecurExpands
def to60 (x : S59) : S60 := ⟨x.f0, x.f1⟩
theorem rd60_nat (l : List S59) (i : Nat) : rd_T60 (l.map to60) (i : Int) = to60 (l.getD i z59) := by
  unfold rd_T60
  simp only [Int.toNat_natCast, List.getD_eq_getElem?_getD, List.getElem?_map]
  cases l[i]? <;> rfl
theorem rd60_f0 (l : List S59) (i : Nat) : (rd_T60 (l.map to60) (i : Int)).f0 = (l.getD i z59).f0 := by rw [rd60_nat]; rfl
theorem rd60_f1 (l : List S59) (i : Nat) : (rd_T60 (l.map to60) (i : Int)).f1 = (l.getD i z59).f1 := by rw [rd60_nat]; rfl
theorem ref_list_ev (l : List Int) (lo up : Int) (hl : l.length ≤ 1000000000) : ∃ b, Ev (fun k => posthornref21_list.f k l lo up) b ∧ (b = true ↔ RisesP l lo up) := by
  unfold posthornref21_list.f RisesP
  refine ev_forall (g := fun i k => posthornref21_list.l0 k l lo up i) ?_ ?_ ?_
  · exact Ev.step (f := fun _ => some true) (fun k => by simp only [posthornref21_list.l0]; rw [if_neg (by omega)]) (Ev.now _)
  · rintro i hi _ ⟨h1, h2, h3, h4⟩ r hr
    refine Ev.step (f := fun k => posthornref21_list.j1 k l lo up (i : Int) false) (fun k => ?_) ?_
    · simp only [posthornref21_list.l0]
      rw [if_pos (by omega), if_pos (by omega), rd_nat, if_neg h3, if_neg (by omega), decide_eq_false (by omega)]
    · refine Ev.step (fun k => ?_) hr
      simp only [posthornref21_list.j1]
      rw [if_neg (by decide)]
      by_cases h0 : (i : Int) > 0
      · rw [if_pos h0, if_pos (by omega), if_pos (by omega), wrap64_in (x := (i : Int) - 1) (by omega) (by omega), if_pos (by omega), if_pos (by omega), show (i : Int) - 1 = ((i - 1 : Nat) : Int) by omega, rd_nat, rd_nat, if_neg (by have := h4 (by omega); omega), wrap64_in (by omega) (by omega)]
      · rw [if_neg h0, wrap64_in (by omega) (by omega)]
  · intro i hi _ hn
    have bad : Ev (fun k => posthornref21_list.j1 k l lo up (i : Int) true) false := Ev.step (f := fun _ => some false) (fun k => by simp only [posthornref21_list.j1]; rw [if_pos trivial]) (Ev.now _)
    refine Ev.succ ?_
    simp only [posthornref21_list.l0, rd_nat]
    refine Ev.pos (by omega) (Ev.pos (by omega) (Ev.ite (fun _ => bad) (fun q1 => Ev.ite (fun _ => bad) (fun q2 => ?_))))
    by_cases q3 : l.getD i 0 > up
    · rw [decide_eq_true q3]; exact bad
    · rw [decide_eq_false q3]
      have h4 : 0 < i ∧ ¬ l.getD (i - 1) 0 < l.getD i 0 := by
        unfold risesP at hn
        refine Classical.byContradiction fun hc => hn ⟨by omega, by omega, q1, fun h => Classical.byContradiction fun hc2 => hc ⟨h, hc2⟩⟩
      refine Ev.step (f := fun _ => some false) (fun k => ?_) (Ev.now _)
      simp only [posthornref21_list.j1]
      rw [if_neg (by decide), if_pos (by omega), if_pos (by omega), if_pos (by omega), wrap64_in (x := (i : Int) - 1) (by omega) (by omega), if_pos (by omega), if_pos (by omega), show (i : Int) - 1 = ((i - 1 : Nat) : Int) by omega, rd_nat, rd_nat, if_pos (by omega)]
theorem ref_week_ev (l : List S59) (fine : Bool) (hl : l.length ≤ 1000000000) : ∃ b, Ev (fun k => posthornref21_week.f k (l.map to60) fine) b ∧ (b = true ↔ WeekP l fine) := by
  unfold posthornref21_week.f WeekP
  refine ev_forall (g := fun i k => posthornref21_week.l0 k (l.map to60) fine i) ?_ ?_ ?_
  · exact Ev.step (f := fun _ => some true) (fun k => by simp only [posthornref21_week.l0]; rw [if_neg (by simp)]) (Ev.now _)
  · rintro i hi hbe ⟨h1, h2, h3, h4, h5, h6⟩ r hr
    have hlen : (i : Int) < ((l.map to60).length : Int) := by simp; omega
    refine Ev.step (f := fun k => posthornref21_week.j1 k (l.map to60) fine (i : Int) false (l.getD i z59).f0 (l.getD i z59).f1) (fun k => ?_) ?_
    · simp only [posthornref21_week.l0]
      rw [if_pos hlen, if_pos (by omega), rd60_f0, rd60_f1]
      rw [if_neg (by omega), if_neg (by omega), if_neg (by omega), if_neg (by omega)]
      by_cases e : (l.getD i z59).f1 = 0
      · rw [if_pos e]
      · rw [if_neg e]
        cases fine with
        | true => rfl
        | false => exact absurd (h5 rfl) e
    · refine Ev.step (fun k => ?_) hr
      simp only [posthornref21_week.j1]
      rw [if_neg (by decide)]
      by_cases h0 : (i : Int) > 0
      · rw [if_pos h0, wrap64_in (x := (i : Int) - 1) (by omega) (by omega), if_pos (by omega), if_pos (by simp; omega), show (i : Int) - 1 = ((i - 1 : Nat) : Int) by omega, rd60_f0, rd60_f1]
        have h6' := h6 (by omega)
        rw [if_neg (by omega), wrap64_in (x := (i : Int) + 1) (by omega) (by omega)]
        by_cases e : (l.getD (i - 1) z59).f0 = (l.getD i z59).f0
        · rw [if_pos e, if_neg (by omega)]
        · rw [if_neg e]
      · rw [if_neg h0, wrap64_in (by omega) (by omega)]
  · intro i hi hbe hn
    have hlen : (i : Int) < ((l.map to60).length : Int) := by simp; omega
    have bad : Ev (fun k => posthornref21_week.j1 k (l.map to60) fine (i : Int) true (l.getD i z59).f0 (l.getD i z59).f1) false := Ev.step (f := fun _ => some false) (fun k => by simp only [posthornref21_week.j1]; rw [if_pos trivial]) (Ev.now _)
    have mid : 0 ≤ (l.getD i z59).f0 → (l.getD i z59).f0 ≤ 6 → -5 ≤ (l.getD i z59).f1 → (l.getD i z59).f1 ≤ 5 → (fine = false → (l.getD i z59).f1 = 0) → Ev (fun k => posthornref21_week.j1 k (l.map to60) fine (i : Int) false (l.getD i z59).f0 (l.getD i z59).f1) false := by
      intro q1 q2 q3 q4 q5
      obtain ⟨h0, h6⟩ : 0 < i ∧ ¬ ((l.getD (i - 1) z59).f0 < (l.getD i z59).f0 ∨ ((l.getD (i - 1) z59).f0 = (l.getD i z59).f0 ∧ (l.getD (i - 1) z59).f1 < (l.getD i z59).f1)) := by
        unfold weekP at hn
        exact Classical.byContradiction fun hc => hn ⟨q1, q2, q3, q4, q5, fun h => Classical.byContradiction fun hc2 => hc ⟨h, hc2⟩⟩
      refine Ev.step (f := fun _ => some false) (fun k => ?_) (Ev.now _)
      simp only [posthornref21_week.j1]
      rw [if_neg (by decide), if_pos (by omega), wrap64_in (x := (i : Int) - 1) (by omega) (by omega), if_pos (by omega), if_pos (by simp; omega), show (i : Int) - 1 = ((i - 1 : Nat) : Int) by omega, rd60_f0, rd60_f1]
      by_cases e : (l.getD (i - 1) z59).f0 > (l.getD i z59).f0
      · rw [if_pos e]
      · rw [if_neg e, if_pos (by omega), if_pos (by omega)]
    refine Ev.succ ?_
    simp only [posthornref21_week.l0, rd60_f0, rd60_f1]
    refine Ev.pos hlen (Ev.pos (by omega) (Ev.ite (fun _ => bad) (fun q1 => Ev.ite (fun _ => bad) (fun q2 => Ev.ite (fun _ => bad) (fun q3 => Ev.ite (fun _ => bad) (fun q4 => Ev.ite (fun q5 => mid (by omega) (by omega) (by omega) (by omega) (fun _ => q5)) (fun q5 => ?_)))))))
    cases fine with
    | true => exact mid (by omega) (by omega) (by omega) (by omega) (fun h => by cases h)
    | false => exact bad
open Classical in
theorem ref_time (t : Int) : posthornref12_Time.f t = some (decide (timeP t)) := by
  have e : ∀ b : Bool, (b = true ↔ timeP t) → b = decide (timeP t) := fun b hb => by rw [Bool.eq_iff_iff, hb, decide_eq_true_eq]
  unfold posthornref12_Time.f
  by_cases h : t ≥ 0
  · rw [if_pos h, e (decide (t < 253402300800)) (by rw [decide_eq_true_eq]; unfold timeP; omega)]
  · rw [if_neg h, e false (by unfold timeP; simp; omega)]
theorem ref_right_ev (f i c u : Int) (l4 l5 : List Int) (l6 : List S59) (h4 : l4.length ≤ 1000000000) (h5 : l5.length ≤ 1000000000) (h6 : l6.length ≤ 1000000000) :
    ∃ b, Ev (fun k => posthornref21_Right.f k f i c u l4 l5 (l6.map to60)) b ∧ (b = true ↔ RightP f i c u l4 l5 l6) := by
  classical
  refine ⟨decide (RightP f i c u l4 l5 l6), ?_, by simp⟩
  obtain ⟨b4, e4, p4⟩ := ref_list_ev l4 1 12 h4
  obtain ⟨b5, e5, p5⟩ := ref_list_ev l5 (-31) 31 h5
  obtain ⟨bw, ew, pw⟩ := ref_week_ev l6 (decide (f ≥ 3)) h6
  have no : ∀ {P : Prop} [Decidable P], ¬ P → decide P = false := fun h => decide_eq_false h
  have len5 : ((l5.length : Int) > 0) ↔ l5 ≠ [] := by
    cases l5 with
    | nil => simp
    | cons a b => simp
  have J2 : ∀ x : Bool, (x = true → ¬ RightP f i c u l4 l5 l6) → (x = false → 1 ≤ f ∧ f ≤ 4 ∧ 1 ≤ i ∧ i ≤ 1000 ∧ 0 ≤ c ∧ c ≤ 10000 ∧ (u = -1 ∨ (timeP u ∧ c = 0)) ∧ (f ≤ 2 → l5 = [])) → Ev (fun k => posthornref21_Right.j2 k x f i c u l4 l5 (l6.map to60)) (decide (RightP f i c u l4 l5 l6)) := by
    intro x h1 h2
    refine Ev.succ ?_
    simp only [posthornref21_Right.j2]
    refine Ev.ite (fun h => by rw [no (h1 h)]; exact Ev.now _) (fun h => ?_)
    obtain ⟨q1, q2, q3, q4, q5, q6, q7, q8⟩ := h2 (by simpa using h)
    refine Ev.bind e4 (Ev.ite (fun r4 => ?_) (fun r4 => by rw [no (fun h => r4 (p4.mpr h.m))]; exact Ev.now _))
    refine Ev.bind e5 (Ev.ite (fun r5 => ?_) (fun r5 => by rw [no (fun h => r5 (p5.mpr h.d))]; exact Ev.now _))
    refine Ev.bind ew ?_
    have : decide (RightP f i c u l4 l5 l6) = bw := by
      rw [Bool.eq_iff_iff, pw, decide_eq_true_eq]
      exact ⟨fun h => h.w, fun h => ⟨q1, q2, q3, q4, q5, q6, q7, p4.mp r4, p5.mp r5, q8, h⟩⟩
    rw [this]
    exact Ev.now _
  have J1 : ∀ x : Bool, (x = true → ¬ RightP f i c u l4 l5 l6) → (x = false → 1 ≤ f ∧ f ≤ 4 ∧ 1 ≤ i ∧ i ≤ 1000 ∧ 0 ≤ c ∧ c ≤ 10000 ∧ (u = -1 ∨ (timeP u ∧ c = 0))) → Ev (fun k => posthornref21_Right.j1 k x f i c u l4 l5 (l6.map to60)) (decide (RightP f i c u l4 l5 l6)) := by
    intro x h1 h2
    refine Ev.succ ?_
    simp only [posthornref21_Right.j1]
    refine Ev.ite (fun h => by rw [no (h1 h)]; exact Ev.now _) (fun h => ?_)
    obtain ⟨q1, q2, q3, q4, q5, q6, q7⟩ := h2 (by simpa using h)
    refine Ev.ite (fun r => J2 _ (fun h hr => (len5.mp (of_decide_eq_true h)) (hr.dn r)) (fun h => ⟨q1, q2, q3, q4, q5, q6, q7, fun _ => ?_⟩)) (fun r => J2 _ (fun h => by cases h) (fun _ => ⟨q1, q2, q3, q4, q5, q6, q7, fun h => absurd h r⟩))
    exact Classical.byContradiction fun hc => (of_decide_eq_false h) (len5.mpr hc)
  have J0 : ∀ x : Bool, (x = true → ¬ RightP f i c u l4 l5 l6) → (x = false → 1 ≤ f ∧ f ≤ 4 ∧ 1 ≤ i ∧ i ≤ 1000 ∧ 0 ≤ c ∧ c ≤ 10000) → Ev (fun k => posthornref21_Right.j0 k x f i c u l4 l5 (l6.map to60)) (decide (RightP f i c u l4 l5 l6)) := by
    intro x h1 h2
    refine Ev.succ ?_
    simp only [posthornref21_Right.j0]
    refine Ev.ite (fun h => by rw [no (h1 h)]; exact Ev.now _) (fun h => ?_)
    obtain ⟨q1, q2, q3, q4, q5, q6⟩ := h2 (by simpa using h)
    refine Ev.ite (fun hu => J1 _ (fun h => by cases h) (fun _ => ⟨q1, q2, q3, q4, q5, q6, .inl hu⟩)) (fun hu => ?_)
    simp only [ref_time, Option.bind_some]
    refine Ev.ite (fun r => J1 _ (fun h hr => ?_) (fun h => ⟨q1, q2, q3, q4, q5, q6, .inr ⟨of_decide_eq_true r, ?_⟩⟩)) (fun r => J1 _ (fun _ hr => ?_) (fun h => by cases h))
    · have := of_decide_eq_true h
      rcases hr.u0 with h | h
      · exact hu h
      · omega
    · have := of_decide_eq_false h; omega
    · rcases hr.u0 with h | h
      · exact hu h
      · exact r (decide_eq_true h.1)
  unfold posthornref21_Right.f
  have bad : ¬ RightP f i c u l4 l5 l6 → Ev (fun k => posthornref21_Right.j0 k true f i c u l4 l5 (l6.map to60)) (decide (RightP f i c u l4 l5 l6)) := fun h => J0 _ (fun _ => h) (fun h => by cases h)
  refine Ev.ite (fun h => bad fun r => ?_) (fun s1 => Ev.ite (fun h => bad fun r => ?_) (fun s2 => Ev.ite (fun h => bad fun r => ?_) (fun s3 => Ev.ite (fun h => bad fun r => ?_) (fun s4 => Ev.ite (fun h => bad fun r => ?_) (fun s5 => J0 _ (fun h r => ?_) (fun h => ?_))))))
  · have := r.f0; omega
  · have := r.f1; omega
  · have := r.i0; omega
  · have := r.i1; omega
  · have := r.c0; omega
  · have := r.c1; have := of_decide_eq_true h; omega
  · have := of_decide_eq_false h; omega
end Go.Proofs.YtfbmjonhohebiaaGreatDoor
end
section
namespace Go.Proofs.YtfbmjonhohebiaaGreatDoor.PRecurExpands
open Go.RowKit Go.Proofs.YtfbmjonhohebiaaGreatDoorW.PrintWords Go.Proofs.YtfbmjonhohebiaaGreatDoorW.PrintLast Go.Proofs.YtfbmjonhohebiaaGreatDoorW.PrintMore
attribute [local go_sem] max2_int min2_int max_two min_two max_three min_three max_four min_four
set_option linter.unusedVariables false
set_option linter.unusedSimpArgs false
def posthornref12_Year.f (a0 : Int) : Option (Int) := if (Int.tmod a0 400) = 0 then (some 366) else (if (Int.tmod a0 4) = 0 then (if (Int.tmod a0 100) = 0 then (some 365) else (some 366)) else (some 365))
set_option maxHeartbeats 8000000 in
set_option maxRecDepth 100000 in
theorem posthornref12_Year.calls (a0 : Int) (r : Int) (w : World) (h : posthornref12_Year.f a0 = some r) :
    Calls Tryz.prog 89 #[.int .i64 a0] w fun e w' => e = .returned (.int .i64 r) ∧ Drawn0 w w' := by
  have H : (if (Int.tmod a0 400) = 0 then (some 366) else (if (Int.tmod a0 4) = 0 then (if (Int.tmod a0 100) = 0 then (some 365) else (some 366)) else (some 365))) = some r := h
  clear h
  by_cases c2 : (Int.tmod a0 400) = 0
  · rw [if_pos c2] at H
    have c2b0 : ((Int.tmod a0 400) == 0) = true := beq_iff_eq.mpr c2
    have c2b1 : ((Int.tmod a0 400) != 0) = false := bne_eq_false_iff_eq.mpr c2
    clear c2
    obtain rfl := Option.some.inj H
    go_enter Tryz.func89, Tryz.ntmps89
    go_wp2
    go_ret
    exact ⟨by first | rfl | (simp; done) | (simp [*]; done), by repeat (first | exact Drawn0.refl _ | apply Drawn0.step)⟩
  · rw [if_neg c2] at H
    have c2b0 : ((Int.tmod a0 400) == 0) = false := beq_eq_false_iff_ne.mpr c2
    have c2b1 : ((Int.tmod a0 400) != 0) = true := bne_iff_ne.mpr c2
    by_cases c3 : (Int.tmod a0 4) = 0
    · rw [if_pos c3] at H
      have c3b0 : ((Int.tmod a0 4) == 0) = true := beq_iff_eq.mpr c3
      have c3b1 : ((Int.tmod a0 4) != 0) = false := bne_eq_false_iff_eq.mpr c3
      clear c3
      by_cases c4 : (Int.tmod a0 100) = 0
      · rw [if_pos c4] at H
        have c4b0 : ((Int.tmod a0 100) == 0) = true := beq_iff_eq.mpr c4
        have c4b1 : ((Int.tmod a0 100) != 0) = false := bne_eq_false_iff_eq.mpr c4
        clear c4
        obtain rfl := Option.some.inj H
        go_enter Tryz.func89, Tryz.ntmps89
        go_wp2
        go_ret
        exact ⟨by first | rfl | (simp; done) | (simp [*]; done), by repeat (first | exact Drawn0.refl _ | apply Drawn0.step)⟩
      · rw [if_neg c4] at H
        have c4b0 : ((Int.tmod a0 100) == 0) = false := beq_eq_false_iff_ne.mpr c4
        have c4b1 : ((Int.tmod a0 100) != 0) = true := bne_iff_ne.mpr c4
        obtain rfl := Option.some.inj H
        go_enter Tryz.func89, Tryz.ntmps89
        go_wp2
        go_ret
        exact ⟨by first | rfl | (simp; done) | (simp [*]; done), by repeat (first | exact Drawn0.refl _ | apply Drawn0.step)⟩
    · rw [if_neg c3] at H
      have c3b0 : ((Int.tmod a0 4) == 0) = false := beq_eq_false_iff_ne.mpr c3
      have c3b1 : ((Int.tmod a0 4) != 0) = true := bne_iff_ne.mpr c3
      obtain rfl := Option.some.inj H
      go_enter Tryz.func89, Tryz.ntmps89
      go_wp2
      go_ret
      exact ⟨by first | rfl | (simp; done) | (simp [*]; done), by repeat (first | exact Drawn0.refl _ | apply Drawn0.step)⟩
def posthornref12_Month.j0 : Nat → Int → Int → Bool → Option (Int)
  | 0, _, _, _ => none
  | k + 1, x0, x5, x6 => if x6 = true then (some 30) else (if x5 = 2 then ((posthornref12_Year.f x0).bind fun t323 => (some (wrap64 (t323 - 337)))) else (some 31))
def posthornref12_Month.f (k : Nat) (a0 : Int) (a1 : Int) : Option (Int) := if a1 = 4 then (posthornref12_Month.j0 k a0 a1 (a1 == 4)) else (if a1 = 6 then (posthornref12_Month.j0 k a0 a1 (a1 == 6)) else (if a1 = 9 then (posthornref12_Month.j0 k a0 a1 (a1 == 9)) else (posthornref12_Month.j0 k a0 a1 (a1 == 11))))
theorem posthornref12_Month.mono_l : ∀ k, (∀ y0 y1 y2, LeO (posthornref12_Month.j0 k y0 y1 y2) (posthornref12_Month.j0 (k + 1) y0 y1 y2))
  | 0 => fun _ _ _ r h => by simp [posthornref12_Month.j0] at h
  | k + 1 => by
    have ih0 := posthornref12_Month.mono_l k
    · intro y0 y1 y2
      unfold posthornref12_Month.j0
      repeat' first
      | (with_reducible exact ih0 _ _ _)
      | (with_reducible exact LeO.refl _)
      | (with_reducible exact LeO.none _)
      | (with_reducible refine LeO.ite ?_ ?_)
      | (with_reducible refine LeO.bind ?_ (fun _ => ?_))
      | exact ih0 _ _ _
      | exact LeO.none _
      | refine LeO.ite ?_ ?_
      | refine LeO.bind ?_ (fun _ => ?_)
theorem posthornref12_Month.mono : ∀ a0 a1 k, LeO (posthornref12_Month.f k a0 a1) (posthornref12_Month.f (k + 1) a0 a1) := by
  intro a0 a1 k
  have ih0 := posthornref12_Month.mono_l k
  unfold posthornref12_Month.f
  repeat' first
      | (with_reducible exact ih0 _ _ _)
      | (with_reducible exact LeO.refl _)
      | (with_reducible exact LeO.none _)
      | (with_reducible refine LeO.ite ?_ ?_)
      | (with_reducible refine LeO.bind ?_ (fun _ => ?_))
      | exact ih0 _ _ _
      | exact LeO.none _
      | refine LeO.ite ?_ ?_
      | refine LeO.bind ?_ (fun _ => ?_)
set_option maxHeartbeats 8000000 in
set_option maxRecDepth 100000 in
theorem posthornref12_Month.calls (k : Nat) (a0 : Int) (a1 : Int) (r : Int) (w : World) (h : posthornref12_Month.f k a0 a1 = some r) :
    Calls Tryz.prog 90 #[.int .i64 a0, .int .i64 a1] w fun e w' => e = .returned (.int .i64 r) ∧ Drawn0 w w' := by
  have H : (if a1 = 4 then (posthornref12_Month.j0 k a0 a1 (a1 == 4)) else (if a1 = 6 then (posthornref12_Month.j0 k a0 a1 (a1 == 6)) else (if a1 = 9 then (posthornref12_Month.j0 k a0 a1 (a1 == 9)) else (posthornref12_Month.j0 k a0 a1 (a1 == 11))))) = some r := h
  clear h
  have HC3 := Aside0.mk H
  clear H
  go_enter Tryz.func90, Tryz.ntmps90
  go_upto_if 6 with (fail)
  go_cut [6] (fun v6 wc => ∃ (kq : Nat) (x6_2 : Bool), v6 = .bool x6_2 ∧ Aside0 (posthornref12_Month.j0 kq a0 a1 x6_2 = some r) ∧ Aside0 (kq ≤ k) ∧ Drawn0 w wc)
  case first =>
    have H := HC3.out
    clear HC3
    by_cases c4 : a1 = 4
    · rw [if_pos c4] at H
      have c4b0 : (a1 == 4) = true := beq_iff_eq.mpr c4
      have c4b1 : (a1 != 4) = false := bne_eq_false_iff_eq.mpr c4
      clear c4
      (first | rw [c4b0] | (simp only [i64_w, i32_w]; rw [c4b0]) | skip)
      have H' := Aside0.mk H
      clear H
      go_wp2
      go_meet
      case rel => exact ⟨_, ((a1 == 4)), (by first | rfl | (simp; done) | (simp [*]; done)), H', ⟨by first | omega | exact Nat.le_refl _⟩, by repeat (first | exact Drawn0.refl _ | apply Drawn0.step)⟩
    · rw [if_neg c4] at H
      have c4b0 : (a1 == 4) = false := beq_eq_false_iff_ne.mpr c4
      have c4b1 : (a1 != 4) = true := bne_iff_ne.mpr c4
      (first | rw [c4b0] | (simp only [i64_w, i32_w]; rw [c4b0]) | skip)
      by_cases c5 : a1 = 6
      · rw [if_pos c5] at H
        have c5b0 : (a1 == 6) = true := beq_iff_eq.mpr c5
        have c5b1 : (a1 != 6) = false := bne_eq_false_iff_eq.mpr c5
        clear c5
        have H' := Aside0.mk H
        clear H
        go_wp2
        go_meet
        case rel => exact ⟨_, ((a1 == 6)), (by first | rfl | (simp; done) | (simp [*]; done)), H', ⟨by first | omega | exact Nat.le_refl _⟩, by repeat (first | exact Drawn0.refl _ | apply Drawn0.step)⟩
      · rw [if_neg c5] at H
        have c5b0 : (a1 == 6) = false := beq_eq_false_iff_ne.mpr c5
        have c5b1 : (a1 != 6) = true := bne_iff_ne.mpr c5
        by_cases c6 : a1 = 9
        · rw [if_pos c6] at H
          have c6b0 : (a1 == 9) = true := beq_iff_eq.mpr c6
          have c6b1 : (a1 != 9) = false := bne_eq_false_iff_eq.mpr c6
          clear c6
          have H' := Aside0.mk H
          clear H
          go_wp2
          go_meet
          case rel => exact ⟨_, ((a1 == 9)), (by first | rfl | (simp; done) | (simp [*]; done)), H', ⟨by first | omega | exact Nat.le_refl _⟩, by repeat (first | exact Drawn0.refl _ | apply Drawn0.step)⟩
        · rw [if_neg c6] at H
          have c6b0 : (a1 == 9) = false := beq_eq_false_iff_ne.mpr c6
          have c6b1 : (a1 != 9) = true := bne_iff_ne.mpr c6
          have H' := Aside0.mk H
          clear H
          go_wp2
          go_meet
          case rel => exact ⟨_, ((a1 == 11)), (by first | rfl | (simp; done) | (simp [*]; done)), H', ⟨by first | omega | exact Nat.le_refl _⟩, by repeat (first | exact Drawn0.refl _ | apply Drawn0.step)⟩
  case rest =>
    clear HC3
    try clear p2
    try clear c4
    try clear c4b0
    try clear c4b1
    try clear c5
    try clear c5b0
    try clear c5b1
    try clear c6
    try clear c6b0
    try clear c6b1
    obtain ⟨kq, x6_2, rfl, HA, HJ2, ⟨mc2, rfl⟩⟩ := hcut
    cases kq with
    | zero => exact absurd HA.out (by simp [posthornref12_Month.j0])
    | succ kj2 =>
      have H := HA.out
      clear HA
      simp only [posthornref12_Month.j0] at H
      by_cases c7 : x6_2 = true
      · subst c7
        have H1 : (some 30) = some r := by rw [if_pos rfl] at H; exact H
        clear H
        have H := H1
        clear H1
        obtain rfl := Option.some.inj H
        go_wp2
        go_ret
        exact ⟨by first | rfl | (simp; done) | (simp [*]; done), by repeat (first | exact Drawn0.refl _ | apply Drawn0.step)⟩
      · replace c7 := Bool.eq_false_iff.mpr c7
        subst c7
        have H1 : (if a1 = 2 then ((posthornref12_Year.f a0).bind fun t323 => (some (wrap64 (t323 - 337)))) else (some 31)) = some r := by rw [if_neg (show ¬ (false = true) by decide)] at H; exact H
        clear H
        have H := H1
        clear H1
        by_cases c8 : a1 = 2
        · rw [if_pos c8] at H
          have c8b0 : (a1 == 2) = true := beq_iff_eq.mpr c8
          have c8b1 : (a1 != 2) = false := bne_eq_false_iff_eq.mpr c8
          clear c8
          replace H := Option.bind_eq_some_iff.mp H
          obtain ⟨t323, A90, H⟩ := H
          replace H : (some (wrap64 (t323 - 337))) = some r := H
          have A9 := Aside0.mk A90
          clear A90
          obtain rfl := Option.some.inj H
          go_wp2_with (first | ((with_reducible refine gate_callee (f := 89) rfl ?_); refine goesL_ (some 14) rfl rfl Tryz.func89 (by kernel_rfl) rfl #[.int .i64 a0] rfl (by (try simp only [List.map_toArray, List.map_cons, List.map_nil]); first | done | rfl | (simp only [List.length_drop, List.length_take]; rfl)) ?_; (with_reducible refine (posthornref12_Year.calls a0 t323 _ A9.out).mono ?_); rintro e w' ⟨rfl, ⟨nd, rfl⟩⟩; refine ⟨_, rfl, ?_⟩))
          go_ret
          exact ⟨by first | rfl | (simp; done) | (simp [*]; done), by repeat (first | exact Drawn0.refl _ | apply Drawn0.step)⟩
        · rw [if_neg c8] at H
          have c8b0 : (a1 == 2) = false := beq_eq_false_iff_ne.mpr c8
          have c8b1 : (a1 != 2) = true := bne_iff_ne.mpr c8
          obtain rfl := Option.some.inj H
          go_wp2
          go_ret
          exact ⟨by first | rfl | (simp; done) | (simp [*]; done), by repeat (first | exact Drawn0.refl _ | apply Drawn0.step)⟩
mutual
def posthornref12_Civil.j0 : Nat → Int → Bool → Option (Int × Int × Int × Int)
  | 0, _, _ => none
  | k + 1, x0, x14 => if x14 = true then (some (0, 0, 0, 110)) else (posthornref12_Civil.l0 k x0 1970 1)
def posthornref12_Civil.l0 : Nat → Int → Int → Int → Option (Int × Int × Int × Int)
  | 0, _, _, _ => none
  | k + 1, x6, x7, x8 => (posthornref12_Year.f x7).bind fun t324 => (if x6 ≥ t324 then ((posthornref12_Year.f x7).bind fun t325 => (posthornref12_Civil.l0 k (wrap64 (x6 - t325)) (wrap64 (x7 + 1)) x8)) else (posthornref12_Civil.l1 k x6 x7 x8))
def posthornref12_Civil.l1 : Nat → Int → Int → Int → Option (Int × Int × Int × Int)
  | 0, _, _, _ => none
  | k + 1, x6, x7, x8 => (posthornref12_Month.f k x7 x8).bind fun t326 => (if x6 ≥ t326 then ((posthornref12_Month.f k x7 x8).bind fun t327 => (posthornref12_Civil.l1 k (wrap64 (x6 - t327)) x7 (wrap64 (x8 + 1)))) else (some (x7, x8, wrap64 (x6 + 1), 0)))
end
def posthornref12_Civil.f (k : Nat) (a0 : Int) : Option (Int × Int × Int × Int) := if a0 < 0 then (posthornref12_Civil.j0 k a0 true) else (posthornref12_Civil.j0 k a0 (decide (a0 > 2932896)))
theorem posthornref12_Civil.mono_l : ∀ k, (∀ y0 y1, LeO (posthornref12_Civil.j0 k y0 y1) (posthornref12_Civil.j0 (k + 1) y0 y1)) ∧ (∀ y0 y1 y2, LeO (posthornref12_Civil.l0 k y0 y1 y2) (posthornref12_Civil.l0 (k + 1) y0 y1 y2)) ∧ (∀ y0 y1 y2, LeO (posthornref12_Civil.l1 k y0 y1 y2) (posthornref12_Civil.l1 (k + 1) y0 y1 y2))
  | 0 => ⟨fun _ _ r h => by simp [posthornref12_Civil.j0] at h, fun _ _ _ r h => by simp [posthornref12_Civil.l0] at h, fun _ _ _ r h => by simp [posthornref12_Civil.l1] at h⟩
  | k + 1 => by
    obtain ⟨ih0, ih1, ih2⟩ := posthornref12_Civil.mono_l k
    refine ⟨?_, ?_, ?_⟩
    · intro y0 y1
      unfold posthornref12_Civil.j0
      repeat' first
      | (with_reducible exact ih0 _ _)
      | (with_reducible exact ih1 _ _ _)
      | (with_reducible exact ih2 _ _ _)
      | (with_reducible exact posthornref12_Month.mono _ _ _)
      | (with_reducible exact LeO.refl _)
      | (with_reducible exact LeO.none _)
      | (with_reducible refine LeO.ite ?_ ?_)
      | (with_reducible refine LeO.bind ?_ (fun _ => ?_))
      | exact ih0 _ _
      | exact ih1 _ _ _
      | exact ih2 _ _ _
      | exact posthornref12_Month.mono _ _ _
      | exact LeO.none _
      | refine LeO.ite ?_ ?_
      | refine LeO.bind ?_ (fun _ => ?_)
    · intro y0 y1 y2
      unfold posthornref12_Civil.l0
      repeat' first
      | (with_reducible exact ih0 _ _)
      | (with_reducible exact ih1 _ _ _)
      | (with_reducible exact ih2 _ _ _)
      | (with_reducible exact posthornref12_Month.mono _ _ _)
      | (with_reducible exact LeO.refl _)
      | (with_reducible exact LeO.none _)
      | (with_reducible refine LeO.ite ?_ ?_)
      | (with_reducible refine LeO.bind ?_ (fun _ => ?_))
      | exact ih0 _ _
      | exact ih1 _ _ _
      | exact ih2 _ _ _
      | exact posthornref12_Month.mono _ _ _
      | exact LeO.none _
      | refine LeO.ite ?_ ?_
      | refine LeO.bind ?_ (fun _ => ?_)
    · intro y0 y1 y2
      unfold posthornref12_Civil.l1
      repeat' first
      | (with_reducible exact ih0 _ _)
      | (with_reducible exact ih1 _ _ _)
      | (with_reducible exact ih2 _ _ _)
      | (with_reducible exact posthornref12_Month.mono _ _ _)
      | (with_reducible exact LeO.refl _)
      | (with_reducible exact LeO.none _)
      | (with_reducible refine LeO.ite ?_ ?_)
      | (with_reducible refine LeO.bind ?_ (fun _ => ?_))
      | exact ih0 _ _
      | exact ih1 _ _ _
      | exact ih2 _ _ _
      | exact posthornref12_Month.mono _ _ _
      | exact LeO.none _
      | refine LeO.ite ?_ ?_
      | refine LeO.bind ?_ (fun _ => ?_)
theorem posthornref12_Civil.mono : ∀ a0 k, LeO (posthornref12_Civil.f k a0) (posthornref12_Civil.f (k + 1) a0) := by
  intro a0 k
  obtain ⟨ih0, ih1, ih2⟩ := posthornref12_Civil.mono_l k
  unfold posthornref12_Civil.f
  repeat' first
      | (with_reducible exact ih0 _ _)
      | (with_reducible exact ih1 _ _ _)
      | (with_reducible exact ih2 _ _ _)
      | (with_reducible exact posthornref12_Month.mono _ _ _)
      | (with_reducible exact LeO.refl _)
      | (with_reducible exact LeO.none _)
      | (with_reducible refine LeO.ite ?_ ?_)
      | (with_reducible refine LeO.bind ?_ (fun _ => ?_))
      | exact ih0 _ _
      | exact ih1 _ _ _
      | exact ih2 _ _ _
      | exact posthornref12_Month.mono _ _ _
      | exact LeO.none _
      | refine LeO.ite ?_ ?_
      | refine LeO.bind ?_ (fun _ => ?_)
set_option maxHeartbeats 8000000 in
set_option maxRecDepth 100000 in
theorem posthornref12_Civil.calls (k : Nat) (a0 : Int) (r1 : Int) (r2 : Int) (r3 : Int) (r4 : Int) (w : World) (h : posthornref12_Civil.f k a0 = some (r1, r2, r3, r4)) :
    Calls Tryz.prog 60 #[.int .i64 a0] w fun e w' => e = .returned (.tuple #[.int .i64 r1, .int .i64 r2, .int .i64 r3, .int .i64 r4]) ∧ Drawn0 w w' := by
  have H : (if a0 < 0 then (posthornref12_Civil.j0 k a0 true) else (posthornref12_Civil.j0 k a0 (decide (a0 > 2932896)))) = some (r1, r2, r3, r4) := h
  clear h
  have HC2 := Aside0.mk H
  clear H
  go_enter Tryz.func60, Tryz.ntmps60
  go_upto_region 1 with (fail)
  go_cut [14] (fun v14 wc => ∃ (kq : Nat) (x14_1 : Bool), v14 = .bool x14_1 ∧ Aside0 (posthornref12_Civil.j0 kq a0 x14_1 = some (r1, r2, r3, r4)) ∧ Aside0 (kq ≤ k) ∧ Drawn0 w wc)
  case first =>
    have H := HC2.out
    clear HC2
    by_cases c3 : a0 < 0
    · rw [if_pos c3] at H
      have c3b0 : decide (a0 < 0) = true := decide_eq_true c3
      clear c3
      (first | rw [c3b0] | (simp only [i64_w, i32_w]; rw [c3b0]) | skip)
      have H' := Aside0.mk H
      clear H
      go_wp2
      go_meet
      case rel => exact ⟨_, (true), (by first | rfl | (simp; done) | (simp [*]; done)), H', ⟨by first | omega | exact Nat.le_refl _⟩, by repeat (first | exact Drawn0.refl _ | apply Drawn0.step)⟩
    · rw [if_neg c3] at H
      have c3b0 : decide (a0 < 0) = false := decide_eq_false c3
      clear c3
      (first | rw [c3b0] | (simp only [i64_w, i32_w]; rw [c3b0]) | skip)
      have H' := Aside0.mk H
      clear H
      go_wp2
      go_meet
      case rel => exact ⟨_, (decide (a0 > 2932896)), (by first | rfl | (simp; done) | (simp [*]; done)), H', ⟨by first | omega | exact Nat.le_refl _⟩, by repeat (first | exact Drawn0.refl _ | apply Drawn0.step)⟩
  case rest =>
    clear HC2
    try clear p2
    try clear c3
    try clear c3b0
    obtain ⟨kq, x14_1, rfl, HA, HJ1, ⟨mc1, rfl⟩⟩ := hcut
    cases kq with
    | zero => exact absurd HA.out (by simp [posthornref12_Civil.j0])
    | succ kj1 =>
      have H := HA.out
      clear HA
      simp only [posthornref12_Civil.j0] at H
      by_cases c4 : x14_1 = true
      · subst c4
        have H1 : (some (0, 0, 0, 110)) = some (r1, r2, r3, r4) := by rw [if_pos rfl] at H; exact H
        clear H
        have H := H1
        clear H1
        simp only [Option.some.injEq, Prod.mk.injEq] at H
        obtain ⟨rfl, rfl, rfl, rfl⟩ := H
        go_wp2
        refine bodyPost_ret (results_list (rs := [.tmp 2, .tmp 3, .tmp 4, .tmp 5]) rfl (by simp) (.tmp (.tmp (.tmp (.tmp .nil))))) rfl ?_
        exact ⟨by first | rfl | (simp; done) | (simp [*]; done), by repeat (first | exact Drawn0.refl _ | apply Drawn0.step)⟩
      · replace c4 := Bool.eq_false_iff.mpr c4
        subst c4
        have H1 : (posthornref12_Civil.l0 kj1 a0 1970 1) = some (r1, r2, r3, r4) := by rw [if_neg (show ¬ (false = true) by decide)] at H; exact H
        clear H
        have H := H1
        clear H1
        have H' := Aside0.mk H
        clear H
        go_wp2
        go_loopg [6, 7] kj1 (fun kq v6 v7 w' => ∃ (x6_2 : Int) (x7_2 : Int), v6 = .int .i64 x6_2 ∧ v7 = .int .i64 x7_2 ∧ Aside0 (posthornref12_Civil.l0 kq x6_2 x7_2 1 = some (r1, r2, r3, r4)) ∧ Aside0 (kq ≤ kj1) ∧ Drawn0 w w')
        case atStart => exact ⟨(a0), (1970), (by first | rfl | (simp; done) | (simp [*]; done)), (by first | rfl | (simp; done) | (simp [*]; done)), H', ⟨Nat.le_refl _⟩, by repeat (first | exact Drawn0.refl _ | apply Drawn0.step)⟩
        case round =>
          clear H'
          try clear c1
          try clear p2
          try clear c3
          try clear c3b0
          try clear c4
          try clear p2
          obtain ⟨x6_2, x7_2, rfl, rfl, HA, HK2, ⟨m2, rfl⟩⟩ := hrel
          cases gk with
          | zero => exact absurd HA.out (by simp [posthornref12_Civil.l0])
          | succ k2 =>
            have H := HA.out
            clear HA
            simp only [posthornref12_Civil.l0] at H
            replace H := Option.bind_eq_some_iff.mp H
            obtain ⟨t324, A50, H⟩ := H
            replace H : (if x6_2 ≥ t324 then ((posthornref12_Year.f x7_2).bind fun t325 => (posthornref12_Civil.l0 k2 (wrap64 (x6_2 - t325)) (wrap64 (x7_2 + 1)) 1)) else (posthornref12_Civil.l1 k2 x6_2 x7_2 1)) = some (r1, r2, r3, r4) := H
            have A5 := Aside0.mk A50
            clear A50
            by_cases c6 : x6_2 ≥ t324
            · rw [if_pos c6] at H
              have c6b0 : decide (t324 ≤ x6_2) = true := decide_eq_true c6
              clear c6
              replace H := Option.bind_eq_some_iff.mp H
              obtain ⟨t325, A70, H⟩ := H
              replace H : (posthornref12_Civil.l0 k2 (wrap64 (x6_2 - t325)) (wrap64 (x7_2 + 1)) 1) = some (r1, r2, r3, r4) := H
              have A7 := Aside0.mk A70
              clear A70
              have H' := Aside0.mk H
              clear H
              go_wp2_with (first | ((with_reducible refine gate_callee (f := 89) rfl ?_); refine goesL_ (some 18) rfl rfl Tryz.func89 (by kernel_rfl) rfl #[.int .i64 x7_2] rfl (by (try simp only [List.map_toArray, List.map_cons, List.map_nil]); first | done | rfl | (simp only [List.length_drop, List.length_take]; rfl)) ?_; (with_reducible refine (posthornref12_Year.calls x7_2 t324 _ A5.out).mono ?_); rintro e w' ⟨rfl, ⟨nd, rfl⟩⟩; refine ⟨_, rfl, ?_⟩) | ((with_reducible refine gate_callee (f := 89) rfl ?_); refine goesL_ (some 22) rfl rfl Tryz.func89 (by kernel_rfl) rfl #[.int .i64 x7_2] rfl (by (try simp only [List.map_toArray, List.map_cons, List.map_nil]); first | done | rfl | (simp only [List.length_drop, List.length_take]; rfl)) ?_; (with_reducible refine (posthornref12_Year.calls x7_2 t325 _ A7.out).mono ?_); rintro e w' ⟨rfl, ⟨nd, rfl⟩⟩; refine ⟨_, rfl, ?_⟩))
              go_roundg k2
              case measure => have := HJ1.out; have := HK2.out; omega
              case rel => exact ⟨(wrap64 (x6_2 - t325)), (wrap64 (x7_2 + 1)), (by first | rfl | (simp; done) | (simp [*]; done)), (by first | rfl | (simp; done) | (simp [*]; done)), H', ⟨by have := HJ1.out; have := HK2.out; omega⟩, by repeat (first | exact Drawn0.refl _ | apply Drawn0.step)⟩
            · rw [if_neg c6] at H
              have c6b0 : decide (t324 ≤ x6_2) = false := decide_eq_false c6
              clear c6
              have H' := Aside0.mk H
              clear H
              go_wp2_with (first | ((with_reducible refine gate_callee (f := 89) rfl ?_); refine goesL_ (some 18) rfl rfl Tryz.func89 (by kernel_rfl) rfl #[.int .i64 x7_2] rfl (by (try simp only [List.map_toArray, List.map_cons, List.map_nil]); first | done | rfl | (simp only [List.length_drop, List.length_take]; rfl)) ?_; (with_reducible refine (posthornref12_Year.calls x7_2 t324 _ A5.out).mono ?_); rintro e w' ⟨rfl, ⟨nd, rfl⟩⟩; refine ⟨_, rfl, ?_⟩))
              go_loopg [6, 8] k2 (fun kq v6 v8 w' => ∃ (x6_3 : Int) (x8_3 : Int), v6 = .int .i64 x6_3 ∧ v8 = .int .i64 x8_3 ∧ Aside0 (posthornref12_Civil.l1 kq x6_3 x7_2 x8_3 = some (r1, r2, r3, r4)) ∧ Aside0 (kq ≤ k2) ∧ Drawn0 w w')
              case atStart => exact ⟨(x6_2), (1), (by first | rfl | (simp; done) | (simp [*]; done)), (by first | rfl | (simp; done) | (simp [*]; done)), H', ⟨Nat.le_refl _⟩, by repeat (first | exact Drawn0.refl _ | apply Drawn0.step)⟩
              case round =>
                clear H'
                try clear c1
                try clear p2
                try clear c3
                try clear c3b0
                try clear c4
                try clear c6
                try clear c6b0
                try clear p6
                try clear p2
                obtain ⟨x6_3, x8_3, rfl, rfl, HA, HK3, ⟨m3, rfl⟩⟩ := hrel
                cases gk with
                | zero => exact absurd HA.out (by simp [posthornref12_Civil.l1])
                | succ k3 =>
                  have H := HA.out
                  clear HA
                  simp only [posthornref12_Civil.l1] at H
                  replace H := Option.bind_eq_some_iff.mp H
                  obtain ⟨t326, A80, H⟩ := H
                  replace H : (if x6_3 ≥ t326 then ((posthornref12_Month.f k3 x7_2 x8_3).bind fun t327 => (posthornref12_Civil.l1 k3 (wrap64 (x6_3 - t327)) x7_2 (wrap64 (x8_3 + 1)))) else (some (x7_2, x8_3, wrap64 (x6_3 + 1), 0))) = some (r1, r2, r3, r4) := H
                  have A8 := Aside0.mk A80
                  clear A80
                  by_cases c9 : x6_3 ≥ t326
                  · rw [if_pos c9] at H
                    have c9b0 : decide (t326 ≤ x6_3) = true := decide_eq_true c9
                    clear c9
                    replace H := Option.bind_eq_some_iff.mp H
                    obtain ⟨t327, A100, H⟩ := H
                    replace H : (posthornref12_Civil.l1 k3 (wrap64 (x6_3 - t327)) x7_2 (wrap64 (x8_3 + 1))) = some (r1, r2, r3, r4) := H
                    have A10 := Aside0.mk A100
                    clear A100
                    have H' := Aside0.mk H
                    clear H
                    go_wp2_with (first | ((with_reducible refine gate_callee (f := 90) rfl ?_); refine goesL_ (some 29) rfl rfl Tryz.func90 (by kernel_rfl) rfl #[.int .i64 x7_2, .int .i64 x8_3] rfl (by (try simp only [List.map_toArray, List.map_cons, List.map_nil]); first | done | rfl | (simp only [List.length_drop, List.length_take]; rfl)) ?_; (with_reducible refine (posthornref12_Month.calls k3 x7_2 x8_3 t326 _ A8.out).mono ?_); rintro e w' ⟨rfl, ⟨nd, rfl⟩⟩; refine ⟨_, rfl, ?_⟩) | ((with_reducible refine gate_callee (f := 90) rfl ?_); refine goesL_ (some 34) rfl rfl Tryz.func90 (by kernel_rfl) rfl #[.int .i64 x7_2, .int .i64 x8_3] rfl (by (try simp only [List.map_toArray, List.map_cons, List.map_nil]); first | done | rfl | (simp only [List.length_drop, List.length_take]; rfl)) ?_; (with_reducible refine (posthornref12_Month.calls k3 x7_2 x8_3 t327 _ A10.out).mono ?_); rintro e w' ⟨rfl, ⟨nd, rfl⟩⟩; refine ⟨_, rfl, ?_⟩))
                    go_roundg k3
                    case measure => have := HJ1.out; have := HK2.out; have := HK3.out; omega
                    case rel => exact ⟨(wrap64 (x6_3 - t327)), (wrap64 (x8_3 + 1)), (by first | rfl | (simp; done) | (simp [*]; done)), (by first | rfl | (simp; done) | (simp [*]; done)), H', ⟨by have := HJ1.out; have := HK2.out; have := HK3.out; omega⟩, by repeat (first | exact Drawn0.refl _ | apply Drawn0.step)⟩
                  · rw [if_neg c9] at H
                    have c9b0 : decide (t326 ≤ x6_3) = false := decide_eq_false c9
                    clear c9
                    simp only [Option.some.injEq, Prod.mk.injEq] at H
                    obtain ⟨rfl, rfl, rfl, rfl⟩ := H
                    go_wp2_with (first | ((with_reducible refine gate_callee (f := 90) rfl ?_); refine goesL_ (some 29) rfl rfl Tryz.func90 (by kernel_rfl) rfl #[.int .i64 x7_2, .int .i64 x8_3] rfl (by (try simp only [List.map_toArray, List.map_cons, List.map_nil]); first | done | rfl | (simp only [List.length_drop, List.length_take]; rfl)) ?_; (with_reducible refine (posthornref12_Month.calls k3 x7_2 x8_3 t326 _ A8.out).mono ?_); rintro e w' ⟨rfl, ⟨nd, rfl⟩⟩; refine ⟨_, rfl, ?_⟩))
                    refine bodyPost_ret (results_list (rs := [.tmp 2, .tmp 3, .tmp 4, .tmp 5]) rfl (by simp) (.tmp (.tmp (.tmp (.tmp .nil))))) rfl ?_
                    exact ⟨by first | rfl | (simp; done) | (simp [*]; done), by repeat (first | exact Drawn0.refl _ | apply Drawn0.step)⟩
def posthornref20_Weekday.j0 : Nat → Int → Bool → Option (Int × Int)
  | 0, _, _ => none
  | k + 1, x0, x10 => if x10 = true then (some (0, 110)) else (if (Int.tmod x0 7) < 4 then (some (wrap64 ((Int.tmod x0 7) + 3), 0)) else (some (wrap64 ((Int.tmod x0 7) - 4), 0)))
def posthornref20_Weekday.f (k : Nat) (a0 : Int) : Option (Int × Int) := if a0 < 0 then (posthornref20_Weekday.j0 k a0 true) else (posthornref20_Weekday.j0 k a0 (decide (a0 > 2932896)))
theorem posthornref20_Weekday.mono_l : ∀ k, (∀ y0 y1, LeO (posthornref20_Weekday.j0 k y0 y1) (posthornref20_Weekday.j0 (k + 1) y0 y1))
  | 0 => fun _ _ r h => by simp [posthornref20_Weekday.j0] at h
  | k + 1 => by
    have ih0 := posthornref20_Weekday.mono_l k
    · intro y0 y1
      unfold posthornref20_Weekday.j0
      repeat' first
      | (with_reducible exact ih0 _ _)
      | (with_reducible exact LeO.refl _)
      | (with_reducible exact LeO.none _)
      | (with_reducible refine LeO.ite ?_ ?_)
      | (with_reducible refine LeO.bind ?_ (fun _ => ?_))
      | exact ih0 _ _
      | exact LeO.none _
      | refine LeO.ite ?_ ?_
      | refine LeO.bind ?_ (fun _ => ?_)
theorem posthornref20_Weekday.mono : ∀ a0 k, LeO (posthornref20_Weekday.f k a0) (posthornref20_Weekday.f (k + 1) a0) := by
  intro a0 k
  have ih0 := posthornref20_Weekday.mono_l k
  unfold posthornref20_Weekday.f
  repeat' first
      | (with_reducible exact ih0 _ _)
      | (with_reducible exact LeO.refl _)
      | (with_reducible exact LeO.none _)
      | (with_reducible refine LeO.ite ?_ ?_)
      | (with_reducible refine LeO.bind ?_ (fun _ => ?_))
      | exact ih0 _ _
      | exact LeO.none _
      | refine LeO.ite ?_ ?_
      | refine LeO.bind ?_ (fun _ => ?_)
set_option maxHeartbeats 8000000 in
set_option maxRecDepth 100000 in
theorem posthornref20_Weekday.calls (k : Nat) (a0 : Int) (r1 : Int) (r2 : Int) (w : World) (h : posthornref20_Weekday.f k a0 = some (r1, r2)) :
    Calls Tryz.prog 61 #[.int .i64 a0] w fun e w' => e = .returned (.tuple #[.int .i64 r1, .int .i64 r2]) ∧ Drawn0 w w' := by
  have H : (if a0 < 0 then (posthornref20_Weekday.j0 k a0 true) else (posthornref20_Weekday.j0 k a0 (decide (a0 > 2932896)))) = some (r1, r2) := h
  clear h
  have HC2 := Aside0.mk H
  clear H
  go_enter Tryz.func61, Tryz.ntmps61
  go_upto_region 1 with (fail)
  go_cut [10] (fun v10 wc => ∃ (kq : Nat) (x10_1 : Bool), v10 = .bool x10_1 ∧ Aside0 (posthornref20_Weekday.j0 kq a0 x10_1 = some (r1, r2)) ∧ Aside0 (kq ≤ k) ∧ Drawn0 w wc)
  case first =>
    have H := HC2.out
    clear HC2
    by_cases c3 : a0 < 0
    · rw [if_pos c3] at H
      have c3b0 : decide (a0 < 0) = true := decide_eq_true c3
      clear c3
      (first | rw [c3b0] | (simp only [i64_w, i32_w]; rw [c3b0]) | skip)
      have H' := Aside0.mk H
      clear H
      go_wp2
      go_meet
      case rel => exact ⟨_, (true), (by first | rfl | (simp; done) | (simp [*]; done)), H', ⟨by first | omega | exact Nat.le_refl _⟩, by repeat (first | exact Drawn0.refl _ | apply Drawn0.step)⟩
    · rw [if_neg c3] at H
      have c3b0 : decide (a0 < 0) = false := decide_eq_false c3
      clear c3
      (first | rw [c3b0] | (simp only [i64_w, i32_w]; rw [c3b0]) | skip)
      have H' := Aside0.mk H
      clear H
      go_wp2
      go_meet
      case rel => exact ⟨_, (decide (a0 > 2932896)), (by first | rfl | (simp; done) | (simp [*]; done)), H', ⟨by first | omega | exact Nat.le_refl _⟩, by repeat (first | exact Drawn0.refl _ | apply Drawn0.step)⟩
  case rest =>
    clear HC2
    try clear p2
    try clear c3
    try clear c3b0
    obtain ⟨kq, x10_1, rfl, HA, HJ1, ⟨mc1, rfl⟩⟩ := hcut
    cases kq with
    | zero => exact absurd HA.out (by simp [posthornref20_Weekday.j0])
    | succ kj1 =>
      have H := HA.out
      clear HA
      simp only [posthornref20_Weekday.j0] at H
      by_cases c4 : x10_1 = true
      · subst c4
        have H1 : (some (0, 110)) = some (r1, r2) := by rw [if_pos rfl] at H; exact H
        clear H
        have H := H1
        clear H1
        simp only [Option.some.injEq, Prod.mk.injEq] at H
        obtain ⟨rfl, rfl⟩ := H
        go_wp2
        go_ret2
        exact ⟨by first | rfl | (simp; done) | (simp [*]; done), by repeat (first | exact Drawn0.refl _ | apply Drawn0.step)⟩
      · replace c4 := Bool.eq_false_iff.mpr c4
        subst c4
        have H1 : (if (Int.tmod a0 7) < 4 then (some (wrap64 ((Int.tmod a0 7) + 3), 0)) else (some (wrap64 ((Int.tmod a0 7) - 4), 0))) = some (r1, r2) := by rw [if_neg (show ¬ (false = true) by decide)] at H; exact H
        clear H
        have H := H1
        clear H1
        by_cases c5 : (Int.tmod a0 7) < 4
        · rw [if_pos c5] at H
          have c5b0 : decide ((Int.tmod a0 7) < 4) = true := decide_eq_true c5
          clear c5
          simp only [Option.some.injEq, Prod.mk.injEq] at H
          obtain ⟨rfl, rfl⟩ := H
          go_wp2
          go_ret2
          exact ⟨by first | rfl | (simp; done) | (simp [*]; done), by repeat (first | exact Drawn0.refl _ | apply Drawn0.step)⟩
        · rw [if_neg c5] at H
          have c5b0 : decide ((Int.tmod a0 7) < 4) = false := decide_eq_false c5
          clear c5
          simp only [Option.some.injEq, Prod.mk.injEq] at H
          obtain ⟨rfl, rfl⟩ := H
          go_wp2
          go_ret2
          exact ⟨by first | rfl | (simp; done) | (simp [*]; done), by repeat (first | exact Drawn0.refl _ | apply Drawn0.step)⟩
def posthornref21_has.l0 : Nat → List Int → Int → Int → Option (Bool)
  | 0, _, _, _ => none
  | k + 1, x0, x1, x5 => if x5 < (x0.length : Int) then (if 0 ≤ x5 then (if (rd x0 x5) = x1 then (some true) else (posthornref21_has.l0 k x0 x1 (wrap64 (x5 + 1)))) else (none)) else (some false)
def posthornref21_has.f (k : Nat) (l0 : List Int) (a1 : Int) : Option (Bool) := posthornref21_has.l0 k l0 a1 0
theorem posthornref21_has.mono_l : ∀ k, (∀ y0 y1 y2, LeO (posthornref21_has.l0 k y0 y1 y2) (posthornref21_has.l0 (k + 1) y0 y1 y2))
  | 0 => fun _ _ _ r h => by simp [posthornref21_has.l0] at h
  | k + 1 => by
    have ih0 := posthornref21_has.mono_l k
    · intro y0 y1 y2
      unfold posthornref21_has.l0
      repeat' first
      | (with_reducible exact ih0 _ _ _)
      | (with_reducible exact LeO.refl _)
      | (with_reducible exact LeO.none _)
      | (with_reducible refine LeO.ite ?_ ?_)
      | (with_reducible refine LeO.bind ?_ (fun _ => ?_))
      | exact ih0 _ _ _
      | exact LeO.none _
      | refine LeO.ite ?_ ?_
      | refine LeO.bind ?_ (fun _ => ?_)
theorem posthornref21_has.mono : ∀ a0 a1 k, LeO (posthornref21_has.f k a0 a1) (posthornref21_has.f (k + 1) a0 a1) := by
  intro a0 a1 k
  have ih0 := posthornref21_has.mono_l k
  unfold posthornref21_has.f
  repeat' first
      | (with_reducible exact ih0 _ _ _)
      | (with_reducible exact LeO.refl _)
      | (with_reducible exact LeO.none _)
      | (with_reducible refine LeO.ite ?_ ?_)
      | (with_reducible refine LeO.bind ?_ (fun _ => ?_))
      | exact ih0 _ _ _
      | exact LeO.none _
      | refine LeO.ite ?_ ?_
      | refine LeO.bind ?_ (fun _ => ?_)
set_option maxHeartbeats 8000000 in
set_option maxRecDepth 100000 in
theorem posthornref21_has.calls (k : Nat) (A0 : Option Addr) (c0 : Nat) (l0 : List Int) (a1 : Int) (r : Bool) (w : World) (hr0 : Kd.C (Kd.int .i64) w A0 l0.length l0) (hc0 : l0.length ≤ c0) (h : posthornref21_has.f k l0 a1 = some r) :
    Calls Tryz.prog 62 #[.slice A0 l0.length c0, .int .i64 a1] w fun e w' => e = .returned (.bool r) ∧ Drawn0 w w' := by
  have HR0 := Aside0.mk hr0
  have HC0 := Aside0.mk hc0
  clear hr0 hc0
  have H : (posthornref21_has.l0 k l0 a1 0) = some r := h
  clear h
  have H' := Aside0.mk H
  clear H
  go_enter Tryz.func62, Tryz.ntmps62
  go_wp2
  go_loopg [5] k (fun kq v5 w' => ∃ (x5_1 : Int), v5 = .int .i64 x5_1 ∧ Aside0 (posthornref21_has.l0 kq l0 a1 x5_1 = some r) ∧ Aside0 (kq ≤ k) ∧ Drawn0 w w')
  case atStart => exact ⟨(0), (by first | rfl | (simp; done) | (simp [*]; done)), H', ⟨Nat.le_refl _⟩, by repeat (first | exact Drawn0.refl _ | apply Drawn0.step)⟩
  case round =>
    clear H'
    try clear p2
    obtain ⟨x5_1, rfl, HA, HK1, ⟨m1, rfl⟩⟩ := hrel
    cases gk with
    | zero => exact absurd HA.out (by simp [posthornref21_has.l0])
    | succ k1 =>
      have H := HA.out
      clear HA
      simp only [posthornref21_has.l0] at H
      by_cases c3 : x5_1 < (l0.length : Int)
      · rw [if_pos c3] at H
        have c3b0 : decide (x5_1 < (l0.length : Int)) = true := decide_eq_true c3
        clear c3
        by_cases c4 : 0 ≤ x5_1
        · rw [if_pos c4] at H
          have c4b0 : decide (0 ≤ x5_1) = true := decide_eq_true c4
          clear c4
          by_cases c5 : (rd l0 x5_1) = a1
          · rw [if_pos c5] at H
            have c5b0 : ((rd l0 x5_1) == a1) = true := beq_iff_eq.mpr c5
            have c5b1 : ((rd l0 x5_1) != a1) = false := bne_eq_false_iff_eq.mpr c5
            clear c5
            obtain rfl := Option.some.inj H
            have p328 : 0 ≤ (x5_1 : Int) := of_decide_eq_true (by first | (with_reducible assumption) | assumption)
            have q328 : x5_1 < (l0.length : Int) := of_decide_eq_true (by first | (with_reducible assumption) | assumption)
            obtain ⟨ad328, e328, hx328_0⟩ := Kd.at_int HR0.out x5_1 p328 q328
            cases e328
            replace p328 := eq_true p328
            replace q328 := eq_true q328
            go_wp2
            go_ret
            exact ⟨by first | rfl | (simp; done) | (simp [*]; done), by repeat (first | exact Drawn0.refl _ | apply Drawn0.step)⟩
          · rw [if_neg c5] at H
            have c5b0 : ((rd l0 x5_1) == a1) = false := beq_eq_false_iff_ne.mpr c5
            have c5b1 : ((rd l0 x5_1) != a1) = true := bne_iff_ne.mpr c5
            have H' := Aside0.mk H
            clear H
            have p328 : 0 ≤ (x5_1 : Int) := of_decide_eq_true (by first | (with_reducible assumption) | assumption)
            have q328 : x5_1 < (l0.length : Int) := of_decide_eq_true (by first | (with_reducible assumption) | assumption)
            obtain ⟨ad328, e328, hx328_0⟩ := Kd.at_int HR0.out x5_1 p328 q328
            cases e328
            replace p328 := eq_true p328
            replace q328 := eq_true q328
            go_wp2
            go_roundg k1
            case measure => have := HK1.out; omega
            case rel => exact ⟨(wrap64 (x5_1 + 1)), (by first | rfl | (simp; done) | (simp [*]; done)), H', ⟨by have := HK1.out; omega⟩, by repeat (first | exact Drawn0.refl _ | apply Drawn0.step)⟩
        · rw [if_neg c4] at H
          exact absurd H (by simp)
      · rw [if_neg c3] at H
        have c3b0 : decide (x5_1 < (l0.length : Int)) = false := decide_eq_false c3
        clear c3
        obtain rfl := Option.some.inj H
        go_wp2
        go_ret
        exact ⟨by first | rfl | (simp; done) | (simp [*]; done), by repeat (first | exact Drawn0.refl _ | apply Drawn0.step)⟩
def posthornref21_on.l0 : Nat → Int → Int → Int → Int → Int → Int → List Int → List Int → List (S60) → Option (Bool)
  | 0, _, _, _, _, _, _, _, _, _ => none
  | k + 1, x1, x5, x330000, x330001, x330002, x330003, x330004, x330005, x330006 => if x5 < (x330006.length : Int) then (if 0 ≤ x5 then (if ((rd_T60 x330006 x5).f0) = x1 then (some true) else (posthornref21_on.l0 k x1 (wrap64 (x5 + 1)) x330000 x330001 x330002 x330003 x330004 x330005 x330006)) else (none)) else (some false)
def posthornref21_on.f (k : Nat) (a0_0 : Int) (a0_1 : Int) (a0_2 : Int) (a0_3 : Int) (l0_4 : List Int) (l0_5 : List Int) (l0_6 : List (S60)) (a1 : Int) : Option (Bool) := posthornref21_on.l0 k a1 0 a0_0 a0_1 a0_2 a0_3 l0_4 l0_5 l0_6
theorem posthornref21_on.mono_l : ∀ k, (∀ y0 y1 y2 y3 y4 y5 y6 y7 y8, LeO (posthornref21_on.l0 k y0 y1 y2 y3 y4 y5 y6 y7 y8) (posthornref21_on.l0 (k + 1) y0 y1 y2 y3 y4 y5 y6 y7 y8))
  | 0 => fun _ _ _ _ _ _ _ _ _ r h => by simp [posthornref21_on.l0] at h
  | k + 1 => by
    have ih0 := posthornref21_on.mono_l k
    · intro y0 y1 y2 y3 y4 y5 y6 y7 y8
      unfold posthornref21_on.l0
      repeat' first
      | (with_reducible exact ih0 _ _ _ _ _ _ _ _ _)
      | (with_reducible exact LeO.refl _)
      | (with_reducible exact LeO.none _)
      | (with_reducible refine LeO.ite ?_ ?_)
      | (with_reducible refine LeO.bind ?_ (fun _ => ?_))
      | exact ih0 _ _ _ _ _ _ _ _ _
      | exact LeO.none _
      | refine LeO.ite ?_ ?_
      | refine LeO.bind ?_ (fun _ => ?_)
theorem posthornref21_on.mono : ∀ a0 a1 a2 a3 a4 a5 a6 a7 k, LeO (posthornref21_on.f k a0 a1 a2 a3 a4 a5 a6 a7) (posthornref21_on.f (k + 1) a0 a1 a2 a3 a4 a5 a6 a7) := by
  intro a0 a1 a2 a3 a4 a5 a6 a7 k
  have ih0 := posthornref21_on.mono_l k
  unfold posthornref21_on.f
  repeat' first
      | (with_reducible exact ih0 _ _ _ _ _ _ _ _ _)
      | (with_reducible exact LeO.refl _)
      | (with_reducible exact LeO.none _)
      | (with_reducible refine LeO.ite ?_ ?_)
      | (with_reducible refine LeO.bind ?_ (fun _ => ?_))
      | exact ih0 _ _ _ _ _ _ _ _ _
      | exact LeO.none _
      | refine LeO.ite ?_ ?_
      | refine LeO.bind ?_ (fun _ => ?_)
set_option maxHeartbeats 8000000 in
set_option maxRecDepth 100000 in
theorem posthornref21_on.calls (k : Nat) (a0_0 : Int) (a0_1 : Int) (a0_2 : Int) (a0_3 : Int) (A0_4 : Option Addr) (c0_4 : Nat) (l0_4 : List Int) (A0_5 : Option Addr) (c0_5 : Nat) (l0_5 : List Int) (A0_6 : Option Addr) (c0_6 : Nat) (l0_6 : List (S60)) (a1 : Int) (r : Bool) (w : World) (hr0_4 : Kd.C (Kd.int .i64) w A0_4 l0_4.length l0_4) (hc0_4 : l0_4.length ≤ c0_4) (hr0_5 : Kd.C (Kd.int .i64) w A0_5 l0_5.length l0_5) (hc0_5 : l0_5.length ≤ c0_5) (hr0_6 : Kd.C k60 w A0_6 l0_6.length l0_6) (hc0_6 : l0_6.length ≤ c0_6) (h : posthornref21_on.f k a0_0 a0_1 a0_2 a0_3 l0_4 l0_5 l0_6 a1 = some r) :
    Calls Tryz.prog 63 #[.agg #[.int .i64 a0_0, .int .i64 a0_1, .int .i64 a0_2, .int .i64 a0_3, .slice A0_4 l0_4.length c0_4, .slice A0_5 l0_5.length c0_5, .slice A0_6 l0_6.length c0_6], .int .i64 a1] w fun e w' => e = .returned (.bool r) ∧ Below w.heap.size w w' := by
  have hu34 := Tryz.underlying34
  have HR0_4 := Aside0.mk hr0_4
  have HC0_4 := Aside0.mk hc0_4
  clear hr0_4 hc0_4
  have HR0_5 := Aside0.mk hr0_5
  have HC0_5 := Aside0.mk hc0_5
  clear hr0_5 hc0_5
  have HR0_6 := Aside0.mk hr0_6
  have HC0_6 := Aside0.mk hc0_6
  clear hr0_6 hc0_6
  have HB := Aside0.mk (Below.refl w.heap.size w)
  have H : (posthornref21_on.l0 k a1 0 a0_0 a0_1 a0_2 a0_3 l0_4 l0_5 l0_6) = some r := h
  clear h
  have H' := Aside0.mk H
  clear H
  go_enter Tryz.func63, Tryz.ntmps63
  go_wp2_with (first | ((with_reducible refine gate_dst (N := 2) rfl ?_); refine box_event ?hg (N := 2) ?hd (cs := #[.int .i64 a0_0, .int .i64 a0_1, .int .i64 a0_2, .int .i64 a0_3, .slice A0_4 l0_4.length c0_4, .slice A0_5 l0_5.length c0_5, .slice A0_6 l0_6.length c0_6]) (t := 34) ?hr ?_; (case hd => rfl); (case hg => rfl); (case hr => first | (go_simp; done) | (go_simp; rfl)); intro gb329 hg w3 hbox hb; have n0_ := Aside0.mk (below_step (by repeat (first | (with_reducible first | exact HB.out | apply below_alloc | apply pw_below_drewN | apply below_drew1) | exact HB.out)) hb); have n1_ := Aside0.mk (hbox); have n2_ := Aside0.mk ((by rw [hg]; exact (below_size (by repeat (first | (with_reducible first | exact HB.out | apply below_alloc | apply pw_below_drewN | apply below_drew1) | exact HB.out))) : w.heap.size ≤ gb329)); have n3_ := Aside0.mk ((by rw [hg]; exact (below_size (by repeat (first | (with_reducible first | exact HB.out | apply below_alloc | apply pw_below_drewN | apply below_drew1) | exact HB.out))) : w.heap.size ≤ gb329)); clear HB; have HB := n0_; have BK329 := n1_; have GW329 := n2_; have GE329 := n3_; clear n0_ n1_ n2_ n3_; clear hb hbox hg))
  go_loopg [5] k (fun kq v5 w' => ∃ (x5_1 : Int), v5 = .int .i64 x5_1 ∧ Aside0 (posthornref21_on.l0 kq a1 x5_1 a0_0 a0_1 a0_2 a0_3 l0_4 l0_5 l0_6 = some r) ∧ Aside0 (kq ≤ k) ∧ Aside0 (w'.heap[gb329]? = some (.cells #[.int .i64 a0_0, .int .i64 a0_1, .int .i64 a0_2, .int .i64 a0_3, (.slice A0_4 l0_4.length c0_4), (.slice A0_5 l0_5.length c0_5), (.slice A0_6 l0_6.length c0_6)] 34 (0, 0))) ∧ Aside0 (Below w.heap.size w w'))
  case atStart => exact ⟨(0), (by first | rfl | (simp; done) | (simp [*]; done)), H', ⟨Nat.le_refl _⟩, ⟨by (with_reducible repeat (first | refine blk_drewN ?_ _ | refine blk_drew ?_ | refine blk_alloc ?_ _)); exact BK329.out⟩, ⟨by repeat (first | (with_reducible first | exact HB.out | apply below_alloc | apply pw_below_drewN | apply below_drew1 | refine below_set ?_ GE329.out) | exact HB.out)⟩⟩
  case round =>
    clear H'
    try clear p2
    obtain ⟨x5_1, rfl, HA, HK1, BK329, HB⟩ := hrel
    cases gk with
    | zero => exact absurd HA.out (by simp [posthornref21_on.l0])
    | succ k1 =>
      have H := HA.out
      clear HA
      simp only [posthornref21_on.l0] at H
      by_cases c4 : x5_1 < (l0_6.length : Int)
      · rw [if_pos c4] at H
        have c4b0 : decide (x5_1 < (l0_6.length : Int)) = true := decide_eq_true c4
        clear c4
        by_cases c5 : 0 ≤ x5_1
        · rw [if_pos c5] at H
          have c5b0 : decide (0 ≤ x5_1) = true := decide_eq_true c5
          clear c5
          by_cases c6 : ((rd_T60 l0_6 x5_1).f0) = a1
          · rw [if_pos c6] at H
            have c6b0 : (((rd_T60 l0_6 x5_1).f0) == a1) = true := beq_iff_eq.mpr c6
            have c6b1 : (((rd_T60 l0_6 x5_1).f0) != a1) = false := bne_eq_false_iff_eq.mpr c6
            clear c6
            obtain rfl := Option.some.inj H
            have hcz7_0 : wr.cell? ⟨gb329, 0, none⟩ = some (.int .i64 a0_0) := (blk_cell BK329.out 0).trans rfl
            have hcz7_1 : wr.cell? ⟨gb329, 1, none⟩ = some (.int .i64 a0_1) := (blk_cell BK329.out 1).trans rfl
            have hcz7_2 : wr.cell? ⟨gb329, 2, none⟩ = some (.int .i64 a0_2) := (blk_cell BK329.out 2).trans rfl
            have hcz7_3 : wr.cell? ⟨gb329, 3, none⟩ = some (.int .i64 a0_3) := (blk_cell BK329.out 3).trans rfl
            have hcz7_4 : wr.cell? ⟨gb329, 4, none⟩ = some (.slice A0_4 l0_4.length c0_4) := (blk_cell BK329.out 4).trans rfl
            have hcz7_5 : wr.cell? ⟨gb329, 5, none⟩ = some (.slice A0_5 l0_5.length c0_5) := (blk_cell BK329.out 5).trans rfl
            have hcz7_6 : wr.cell? ⟨gb329, 6, none⟩ = some (.slice A0_6 l0_6.length c0_6) := (blk_cell BK329.out 6).trans rfl
            have hfz7_0 := blk_frozen BK329.out 0
            have hfz7_1 := blk_frozen BK329.out 1
            have hfz7_2 := blk_frozen BK329.out 2
            have hfz7_3 := blk_frozen BK329.out 3
            have hfz7_4 := blk_frozen BK329.out 4
            have hfz7_5 := blk_frozen BK329.out 5
            have hfz7_6 := blk_frozen BK329.out 6
            have p330 : 0 ≤ (x5_1 : Int) := of_decide_eq_true (by first | (with_reducible assumption) | assumption)
            have q330 : x5_1 < (l0_6.length : Int) := of_decide_eq_true (by first | (with_reducible assumption) | assumption)
            obtain ⟨ad330, e330, hx330_0, hx330_1⟩ := at_T60 HR0_6.out x5_1 p330 q330
            cases e330
            replace hx330_0 := (HB.out.cell (World.block_lt_of_cell? w _ hx330_0)).trans hx330_0
            replace hx330_1 := (HB.out.cell (World.block_lt_of_cell? w _ hx330_1)).trans hx330_1
            replace p330 := eq_true p330
            replace q330 := eq_true q330
            go_wp2
            go_ret
            exact ⟨by first | rfl | (simp [errW_none, errW_some] <;> rfl) | (simp [*, errW_none, errW_some] <;> rfl), by repeat (first | (with_reducible first | exact HB.out | apply below_alloc | apply pw_below_drewN | apply below_drew1 | refine below_set ?_ GE329.out) | exact HB.out)⟩
          · rw [if_neg c6] at H
            have c6b0 : (((rd_T60 l0_6 x5_1).f0) == a1) = false := beq_eq_false_iff_ne.mpr c6
            have c6b1 : (((rd_T60 l0_6 x5_1).f0) != a1) = true := bne_iff_ne.mpr c6
            have H' := Aside0.mk H
            clear H
            have hcz8_0 : wr.cell? ⟨gb329, 0, none⟩ = some (.int .i64 a0_0) := (blk_cell BK329.out 0).trans rfl
            have hcz8_1 : wr.cell? ⟨gb329, 1, none⟩ = some (.int .i64 a0_1) := (blk_cell BK329.out 1).trans rfl
            have hcz8_2 : wr.cell? ⟨gb329, 2, none⟩ = some (.int .i64 a0_2) := (blk_cell BK329.out 2).trans rfl
            have hcz8_3 : wr.cell? ⟨gb329, 3, none⟩ = some (.int .i64 a0_3) := (blk_cell BK329.out 3).trans rfl
            have hcz8_4 : wr.cell? ⟨gb329, 4, none⟩ = some (.slice A0_4 l0_4.length c0_4) := (blk_cell BK329.out 4).trans rfl
            have hcz8_5 : wr.cell? ⟨gb329, 5, none⟩ = some (.slice A0_5 l0_5.length c0_5) := (blk_cell BK329.out 5).trans rfl
            have hcz8_6 : wr.cell? ⟨gb329, 6, none⟩ = some (.slice A0_6 l0_6.length c0_6) := (blk_cell BK329.out 6).trans rfl
            have hfz8_0 := blk_frozen BK329.out 0
            have hfz8_1 := blk_frozen BK329.out 1
            have hfz8_2 := blk_frozen BK329.out 2
            have hfz8_3 := blk_frozen BK329.out 3
            have hfz8_4 := blk_frozen BK329.out 4
            have hfz8_5 := blk_frozen BK329.out 5
            have hfz8_6 := blk_frozen BK329.out 6
            have p330 : 0 ≤ (x5_1 : Int) := of_decide_eq_true (by first | (with_reducible assumption) | assumption)
            have q330 : x5_1 < (l0_6.length : Int) := of_decide_eq_true (by first | (with_reducible assumption) | assumption)
            obtain ⟨ad330, e330, hx330_0, hx330_1⟩ := at_T60 HR0_6.out x5_1 p330 q330
            cases e330
            replace hx330_0 := (HB.out.cell (World.block_lt_of_cell? w _ hx330_0)).trans hx330_0
            replace hx330_1 := (HB.out.cell (World.block_lt_of_cell? w _ hx330_1)).trans hx330_1
            replace p330 := eq_true p330
            replace q330 := eq_true q330
            go_wp2
            go_roundg k1
            case measure => have := HK1.out; omega
            case rel => exact ⟨(wrap64 (x5_1 + 1)), (by first | rfl | (simp; done) | (simp [*]; done)), H', ⟨by have := HK1.out; omega⟩, ⟨by (with_reducible repeat (first | refine blk_drewN ?_ _ | refine blk_drew ?_ | refine blk_alloc ?_ _)); exact BK329.out⟩, ⟨by repeat (first | (with_reducible first | exact HB.out | apply below_alloc | apply pw_below_drewN | apply below_drew1 | refine below_set ?_ GE329.out) | exact HB.out)⟩⟩
        · rw [if_neg c5] at H
          exact absurd H (by simp)
      · rw [if_neg c4] at H
        have c4b0 : decide (x5_1 < (l0_6.length : Int)) = false := decide_eq_false c4
        clear c4
        obtain rfl := Option.some.inj H
        have hcz9_0 : wr.cell? ⟨gb329, 0, none⟩ = some (.int .i64 a0_0) := (blk_cell BK329.out 0).trans rfl
        have hcz9_1 : wr.cell? ⟨gb329, 1, none⟩ = some (.int .i64 a0_1) := (blk_cell BK329.out 1).trans rfl
        have hcz9_2 : wr.cell? ⟨gb329, 2, none⟩ = some (.int .i64 a0_2) := (blk_cell BK329.out 2).trans rfl
        have hcz9_3 : wr.cell? ⟨gb329, 3, none⟩ = some (.int .i64 a0_3) := (blk_cell BK329.out 3).trans rfl
        have hcz9_4 : wr.cell? ⟨gb329, 4, none⟩ = some (.slice A0_4 l0_4.length c0_4) := (blk_cell BK329.out 4).trans rfl
        have hcz9_5 : wr.cell? ⟨gb329, 5, none⟩ = some (.slice A0_5 l0_5.length c0_5) := (blk_cell BK329.out 5).trans rfl
        have hcz9_6 : wr.cell? ⟨gb329, 6, none⟩ = some (.slice A0_6 l0_6.length c0_6) := (blk_cell BK329.out 6).trans rfl
        have hfz9_0 := blk_frozen BK329.out 0
        have hfz9_1 := blk_frozen BK329.out 1
        have hfz9_2 := blk_frozen BK329.out 2
        have hfz9_3 := blk_frozen BK329.out 3
        have hfz9_4 := blk_frozen BK329.out 4
        have hfz9_5 := blk_frozen BK329.out 5
        have hfz9_6 := blk_frozen BK329.out 6
        go_wp2
        go_ret
        exact ⟨by first | rfl | (simp [errW_none, errW_some] <;> rfl) | (simp [*, errW_none, errW_some] <;> rfl), by repeat (first | (with_reducible first | exact HB.out | apply below_alloc | apply pw_below_drewN | apply below_drew1 | refine below_set ?_ GE329.out) | exact HB.out)⟩
end Go.Proofs.YtfbmjonhohebiaaGreatDoor.PRecurExpands
end
section
namespace Go.Proofs.YtfbmjonhohebiaaGreatDoor.PRecurExpands
open Go.RowKit Go.Proofs.YtfbmjonhohebiaaGreatDoorW.PrintWords Go.Proofs.YtfbmjonhohebiaaGreatDoorW.PrintLast Go.Proofs.YtfbmjonhohebiaaGreatDoorW.PrintMore
attribute [local go_sem] max2_int min2_int max_two min_two max_three min_three max_four min_four
set_option linter.unusedVariables false
set_option linter.unusedSimpArgs false
mutual
def posthornref21_nth.l0 : Nat → Int → Int → Int → Option (Bool)
  | 0, _, _, _ => none
  | k + 1, x2, x7, x8 => if x8 ≥ 1 then (posthornref21_nth.l0 k x2 (wrap64 (x7 + 1)) (wrap64 (x8 - 7))) else (some (x7 == x2))
def posthornref21_nth.l1 : Nat → Int → Int → Int → Int → Option (Bool)
  | 0, _, _, _, _ => none
  | k + 1, x1, x2, x7, x9 => if x9 ≤ x1 then (posthornref21_nth.l1 k x1 x2 (wrap64 (x7 + 1)) (wrap64 (x9 + 7))) else (some (x7 == (wrap64 (-x2))))
end
def posthornref21_nth.f (k : Nat) (a0 : Int) (a1 : Int) (a2 : Int) : Option (Bool) := if a2 = 0 then (some true) else (if a2 > 0 then (posthornref21_nth.l0 k a2 0 a0) else (posthornref21_nth.l1 k a1 a2 0 a0))
theorem posthornref21_nth.mono_l : ∀ k, (∀ y0 y1 y2, LeO (posthornref21_nth.l0 k y0 y1 y2) (posthornref21_nth.l0 (k + 1) y0 y1 y2)) ∧ (∀ y0 y1 y2 y3, LeO (posthornref21_nth.l1 k y0 y1 y2 y3) (posthornref21_nth.l1 (k + 1) y0 y1 y2 y3))
  | 0 => ⟨fun _ _ _ r h => by simp [posthornref21_nth.l0] at h, fun _ _ _ _ r h => by simp [posthornref21_nth.l1] at h⟩
  | k + 1 => by
    obtain ⟨ih0, ih1⟩ := posthornref21_nth.mono_l k
    refine ⟨?_, ?_⟩
    · intro y0 y1 y2
      unfold posthornref21_nth.l0
      repeat' first
      | (with_reducible exact ih0 _ _ _)
      | (with_reducible exact ih1 _ _ _ _)
      | (with_reducible exact LeO.refl _)
      | (with_reducible exact LeO.none _)
      | (with_reducible refine LeO.ite ?_ ?_)
      | (with_reducible refine LeO.bind ?_ (fun _ => ?_))
      | exact ih0 _ _ _
      | exact ih1 _ _ _ _
      | exact LeO.none _
      | refine LeO.ite ?_ ?_
      | refine LeO.bind ?_ (fun _ => ?_)
    · intro y0 y1 y2 y3
      unfold posthornref21_nth.l1
      repeat' first
      | (with_reducible exact ih0 _ _ _)
      | (with_reducible exact ih1 _ _ _ _)
      | (with_reducible exact LeO.refl _)
      | (with_reducible exact LeO.none _)
      | (with_reducible refine LeO.ite ?_ ?_)
      | (with_reducible refine LeO.bind ?_ (fun _ => ?_))
      | exact ih0 _ _ _
      | exact ih1 _ _ _ _
      | exact LeO.none _
      | refine LeO.ite ?_ ?_
      | refine LeO.bind ?_ (fun _ => ?_)
theorem posthornref21_nth.mono : ∀ a0 a1 a2 k, LeO (posthornref21_nth.f k a0 a1 a2) (posthornref21_nth.f (k + 1) a0 a1 a2) := by
  intro a0 a1 a2 k
  obtain ⟨ih0, ih1⟩ := posthornref21_nth.mono_l k
  unfold posthornref21_nth.f
  repeat' first
      | (with_reducible exact ih0 _ _ _)
      | (with_reducible exact ih1 _ _ _ _)
      | (with_reducible exact LeO.refl _)
      | (with_reducible exact LeO.none _)
      | (with_reducible refine LeO.ite ?_ ?_)
      | (with_reducible refine LeO.bind ?_ (fun _ => ?_))
      | exact ih0 _ _ _
      | exact ih1 _ _ _ _
      | exact LeO.none _
      | refine LeO.ite ?_ ?_
      | refine LeO.bind ?_ (fun _ => ?_)
set_option maxHeartbeats 8000000 in
set_option maxRecDepth 100000 in
theorem posthornref21_nth.calls (k : Nat) (a0 : Int) (a1 : Int) (a2 : Int) (r : Bool) (w : World) (h : posthornref21_nth.f k a0 a1 a2 = some r) :
    Calls Tryz.prog 91 #[.int .i64 a0, .int .i64 a1, .int .i64 a2] w fun e w' => e = .returned (.bool r) ∧ Drawn0 w w' := by
  have H : (if a2 = 0 then (some true) else (if a2 > 0 then (posthornref21_nth.l0 k a2 0 a0) else (posthornref21_nth.l1 k a1 a2 0 a0))) = some r := h
  clear h
  by_cases c4 : a2 = 0
  · rw [if_pos c4] at H
    have c4b0 : (a2 == 0) = true := beq_iff_eq.mpr c4
    have c4b1 : (a2 != 0) = false := bne_eq_false_iff_eq.mpr c4
    clear c4
    obtain rfl := Option.some.inj H
    go_enter Tryz.func91, Tryz.ntmps91
    go_wp2
    go_ret
    exact ⟨by first | rfl | (simp; done) | (simp [*]; done), by repeat (first | exact Drawn0.refl _ | apply Drawn0.step)⟩
  · rw [if_neg c4] at H
    have c4b0 : (a2 == 0) = false := beq_eq_false_iff_ne.mpr c4
    have c4b1 : (a2 != 0) = true := bne_iff_ne.mpr c4
    by_cases c5 : a2 > 0
    · rw [if_pos c5] at H
      have c5b0 : decide (0 < a2) = true := decide_eq_true c5
      clear c5
      have H' := Aside0.mk H
      clear H
      go_enter Tryz.func91, Tryz.ntmps91
      go_wp2
      go_loopg [7, 8] k (fun kq v7 v8 w' => ∃ (x7_1 : Int) (x8_1 : Int), v7 = .int .i64 x7_1 ∧ v8 = .int .i64 x8_1 ∧ Aside0 (posthornref21_nth.l0 kq a2 x7_1 x8_1 = some r) ∧ Aside0 (kq ≤ k) ∧ Drawn0 w w')
      case atStart => exact ⟨(0), (a0), (by first | rfl | (simp; done) | (simp [*]; done)), (by first | rfl | (simp; done) | (simp [*]; done)), H', ⟨Nat.le_refl _⟩, by repeat (first | exact Drawn0.refl _ | apply Drawn0.step)⟩
      case round =>
        clear H'
        try clear p2
        try clear c4
        try clear c4b0
        try clear c4b1
        try clear c5
        try clear c5b0
        obtain ⟨x7_1, x8_1, rfl, rfl, HA, HK1, ⟨m1, rfl⟩⟩ := hrel
        cases gk with
        | zero => exact absurd HA.out (by simp [posthornref21_nth.l0])
        | succ k1 =>
          have H := HA.out
          clear HA
          simp only [posthornref21_nth.l0] at H
          by_cases c6 : x8_1 ≥ 1
          · rw [if_pos c6] at H
            have c6b0 : decide (1 ≤ x8_1) = true := decide_eq_true c6
            clear c6
            have H' := Aside0.mk H
            clear H
            go_wp2
            go_roundg k1
            case measure => have := HK1.out; omega
            case rel => exact ⟨(wrap64 (x7_1 + 1)), (wrap64 (x8_1 - 7)), (by first | rfl | (simp; done) | (simp [*]; done)), (by first | rfl | (simp; done) | (simp [*]; done)), H', ⟨by have := HK1.out; omega⟩, by repeat (first | exact Drawn0.refl _ | apply Drawn0.step)⟩
          · rw [if_neg c6] at H
            have c6b0 : decide (1 ≤ x8_1) = false := decide_eq_false c6
            clear c6
            obtain rfl := Option.some.inj H
            go_wp2
            go_ret
            exact ⟨by first | rfl | (simp; done) | (simp [*]; done), by repeat (first | exact Drawn0.refl _ | apply Drawn0.step)⟩
    · rw [if_neg c5] at H
      have c5b0 : decide (0 < a2) = false := decide_eq_false c5
      clear c5
      have H' := Aside0.mk H
      clear H
      go_enter Tryz.func91, Tryz.ntmps91
      go_wp2
      go_loopg [7, 9] k (fun kq v7 v9 w' => ∃ (x7_1 : Int) (x9_1 : Int), v7 = .int .i64 x7_1 ∧ v9 = .int .i64 x9_1 ∧ Aside0 (posthornref21_nth.l1 kq a1 a2 x7_1 x9_1 = some r) ∧ Aside0 (kq ≤ k) ∧ Drawn0 w w')
      case atStart => exact ⟨(0), (a0), (by first | rfl | (simp; done) | (simp [*]; done)), (by first | rfl | (simp; done) | (simp [*]; done)), H', ⟨Nat.le_refl _⟩, by repeat (first | exact Drawn0.refl _ | apply Drawn0.step)⟩
      case round =>
        clear H'
        try clear p2
        try clear c4
        try clear c4b0
        try clear c4b1
        try clear c5
        try clear c5b0
        try clear c6
        try clear c6b0
        try clear p6
        try clear p2
        obtain ⟨x7_1, x9_1, rfl, rfl, HA, HK1, ⟨m1, rfl⟩⟩ := hrel
        cases gk with
        | zero => exact absurd HA.out (by simp [posthornref21_nth.l1])
        | succ k1 =>
          have H := HA.out
          clear HA
          simp only [posthornref21_nth.l1] at H
          by_cases c7 : x9_1 ≤ a1
          · rw [if_pos c7] at H
            have c7b0 : decide (x9_1 ≤ a1) = true := decide_eq_true c7
            clear c7
            have H' := Aside0.mk H
            clear H
            go_wp2
            go_roundg k1
            case measure => have := HK1.out; omega
            case rel => exact ⟨(wrap64 (x7_1 + 1)), (wrap64 (x9_1 + 7)), (by first | rfl | (simp; done) | (simp [*]; done)), (by first | rfl | (simp; done) | (simp [*]; done)), H', ⟨by have := HK1.out; omega⟩, by repeat (first | exact Drawn0.refl _ | apply Drawn0.step)⟩
          · rw [if_neg c7] at H
            have c7b0 : decide (x9_1 ≤ a1) = false := decide_eq_false c7
            clear c7
            obtain rfl := Option.some.inj H
            go_wp2
            go_ret
            exact ⟨by first | rfl | (simp; done) | (simp [*]; done), by repeat (first | exact Drawn0.refl _ | apply Drawn0.step)⟩
mutual
def posthornref21_month.j0 : Nat → Int → Int → Int → Int → Bool → Int → Int → Int → Int → List Int → List Int → List (S60) → Option (Bool)
  | 0, _, _, _, _, _, _, _, _, _, _, _, _ => none
  | k + 1, x3, x4, x5, x13, x27, x332000, x332001, x332002, x332003, x332004, x332005, x332006 => if x27 = true then (some (x3 == x5)) else (if (x332005.length : Int) > 0 then ((posthornref21_has.f k x332005 x3).bind fun t333 => (if t333 = true then (posthornref21_month.j1 k x3 x4 x13 false x332000 x332001 x332002 x332003 x332004 x332005 x332006) else ((posthornref21_has.f k x332005 (wrap64 ((wrap64 (x3 - 1)) - x13))).bind fun t334 => (posthornref21_month.j1 k x3 x4 x13 (!t334) x332000 x332001 x332002 x332003 x332004 x332005 x332006)))) else (posthornref21_month.j1 k x3 x4 x13 false x332000 x332001 x332002 x332003 x332004 x332005 x332006))
def posthornref21_month.j1 : Nat → Int → Int → Int → Bool → Int → Int → Int → Int → List Int → List Int → List (S60) → Option (Bool)
  | 0, _, _, _, _, _, _, _, _, _, _, _ => none
  | k + 1, x3, x4, x13, x51, x332000, x332001, x332002, x332003, x332004, x332005, x332006 => if x51 = true then (some false) else (posthornref21_month.l0 k x3 x4 x13 0 x332000 x332001 x332002 x332003 x332004 x332005 x332006)
def posthornref21_month.l0 : Nat → Int → Int → Int → Int → Int → Int → Int → Int → List Int → List Int → List (S60) → Option (Bool)
  | 0, _, _, _, _, _, _, _, _, _, _, _ => none
  | k + 1, x3, x4, x13, x14, x332000, x332001, x332002, x332003, x332004, x332005, x332006 => if x14 < (x332006.length : Int) then (if 0 ≤ x14 then (if ((rd_T60 x332006 x14).f0) = x4 then ((posthornref21_nth.f k x3 x13 ((rd_T60 x332006 x14).f1)).bind fun t337 => (if t337 = true then (some true) else (posthornref21_month.l0 k x3 x4 x13 (wrap64 (x14 + 1)) x332000 x332001 x332002 x332003 x332004 x332005 x332006))) else (posthornref21_month.l0 k x3 x4 x13 (wrap64 (x14 + 1)) x332000 x332001 x332002 x332003 x332004 x332005 x332006)) else (none)) else (some ((x332006.length : Int) == 0))
end
def posthornref21_month.f (k : Nat) (a0_0 : Int) (a0_1 : Int) (a0_2 : Int) (a0_3 : Int) (l0_4 : List Int) (l0_5 : List Int) (l0_6 : List (S60)) (a1 : Int) (a2 : Int) (a3 : Int) (a4 : Int) (a5 : Int) : Option (Bool) := (posthornref12_Month.f k a1 a2).bind fun t332 => (if (l0_5.length : Int) = 0 then (posthornref21_month.j0 k a3 a4 a5 t332 ((l0_6.length : Int) == 0) a0_0 a0_1 a0_2 a0_3 l0_4 l0_5 l0_6) else (posthornref21_month.j0 k a3 a4 a5 t332 false a0_0 a0_1 a0_2 a0_3 l0_4 l0_5 l0_6))
theorem posthornref21_month.mono_l : ∀ k, (∀ y0 y1 y2 y3 y4 y5 y6 y7 y8 y9 y10 y11, LeO (posthornref21_month.j0 k y0 y1 y2 y3 y4 y5 y6 y7 y8 y9 y10 y11) (posthornref21_month.j0 (k + 1) y0 y1 y2 y3 y4 y5 y6 y7 y8 y9 y10 y11)) ∧ (∀ y0 y1 y2 y3 y4 y5 y6 y7 y8 y9 y10, LeO (posthornref21_month.j1 k y0 y1 y2 y3 y4 y5 y6 y7 y8 y9 y10) (posthornref21_month.j1 (k + 1) y0 y1 y2 y3 y4 y5 y6 y7 y8 y9 y10)) ∧ (∀ y0 y1 y2 y3 y4 y5 y6 y7 y8 y9 y10, LeO (posthornref21_month.l0 k y0 y1 y2 y3 y4 y5 y6 y7 y8 y9 y10) (posthornref21_month.l0 (k + 1) y0 y1 y2 y3 y4 y5 y6 y7 y8 y9 y10))
  | 0 => ⟨fun _ _ _ _ _ _ _ _ _ _ _ _ r h => by simp [posthornref21_month.j0] at h, fun _ _ _ _ _ _ _ _ _ _ _ r h => by simp [posthornref21_month.j1] at h, fun _ _ _ _ _ _ _ _ _ _ _ r h => by simp [posthornref21_month.l0] at h⟩
  | k + 1 => by
    obtain ⟨ih0, ih1, ih2⟩ := posthornref21_month.mono_l k
    refine ⟨?_, ?_, ?_⟩
    · intro y0 y1 y2 y3 y4 y5 y6 y7 y8 y9 y10 y11
      unfold posthornref21_month.j0
      repeat' first
      | (with_reducible exact ih0 _ _ _ _ _ _ _ _ _ _ _ _)
      | (with_reducible exact ih1 _ _ _ _ _ _ _ _ _ _ _)
      | (with_reducible exact ih2 _ _ _ _ _ _ _ _ _ _ _)
      | (with_reducible exact posthornref12_Month.mono _ _ _)
      | (with_reducible exact posthornref21_has.mono _ _ _)
      | (with_reducible exact posthornref21_nth.mono _ _ _ _)
      | (with_reducible exact LeO.refl _)
      | (with_reducible exact LeO.none _)
      | (with_reducible refine LeO.ite ?_ ?_)
      | (with_reducible refine LeO.bind ?_ (fun _ => ?_))
      | exact ih0 _ _ _ _ _ _ _ _ _ _ _ _
      | exact ih1 _ _ _ _ _ _ _ _ _ _ _
      | exact ih2 _ _ _ _ _ _ _ _ _ _ _
      | exact posthornref12_Month.mono _ _ _
      | exact posthornref21_has.mono _ _ _
      | exact posthornref21_nth.mono _ _ _ _
      | exact LeO.none _
      | refine LeO.ite ?_ ?_
      | refine LeO.bind ?_ (fun _ => ?_)
    · intro y0 y1 y2 y3 y4 y5 y6 y7 y8 y9 y10
      unfold posthornref21_month.j1
      repeat' first
      | (with_reducible exact ih0 _ _ _ _ _ _ _ _ _ _ _ _)
      | (with_reducible exact ih1 _ _ _ _ _ _ _ _ _ _ _)
      | (with_reducible exact ih2 _ _ _ _ _ _ _ _ _ _ _)
      | (with_reducible exact posthornref12_Month.mono _ _ _)
      | (with_reducible exact posthornref21_has.mono _ _ _)
      | (with_reducible exact posthornref21_nth.mono _ _ _ _)
      | (with_reducible exact LeO.refl _)
      | (with_reducible exact LeO.none _)
      | (with_reducible refine LeO.ite ?_ ?_)
      | (with_reducible refine LeO.bind ?_ (fun _ => ?_))
      | exact ih0 _ _ _ _ _ _ _ _ _ _ _ _
      | exact ih1 _ _ _ _ _ _ _ _ _ _ _
      | exact ih2 _ _ _ _ _ _ _ _ _ _ _
      | exact posthornref12_Month.mono _ _ _
      | exact posthornref21_has.mono _ _ _
      | exact posthornref21_nth.mono _ _ _ _
      | exact LeO.none _
      | refine LeO.ite ?_ ?_
      | refine LeO.bind ?_ (fun _ => ?_)
    · intro y0 y1 y2 y3 y4 y5 y6 y7 y8 y9 y10
      unfold posthornref21_month.l0
      repeat' first
      | (with_reducible exact ih0 _ _ _ _ _ _ _ _ _ _ _ _)
      | (with_reducible exact ih1 _ _ _ _ _ _ _ _ _ _ _)
      | (with_reducible exact ih2 _ _ _ _ _ _ _ _ _ _ _)
      | (with_reducible exact posthornref12_Month.mono _ _ _)
      | (with_reducible exact posthornref21_has.mono _ _ _)
      | (with_reducible exact posthornref21_nth.mono _ _ _ _)
      | (with_reducible exact LeO.refl _)
      | (with_reducible exact LeO.none _)
      | (with_reducible refine LeO.ite ?_ ?_)
      | (with_reducible refine LeO.bind ?_ (fun _ => ?_))
      | exact ih0 _ _ _ _ _ _ _ _ _ _ _ _
      | exact ih1 _ _ _ _ _ _ _ _ _ _ _
      | exact ih2 _ _ _ _ _ _ _ _ _ _ _
      | exact posthornref12_Month.mono _ _ _
      | exact posthornref21_has.mono _ _ _
      | exact posthornref21_nth.mono _ _ _ _
      | exact LeO.none _
      | refine LeO.ite ?_ ?_
      | refine LeO.bind ?_ (fun _ => ?_)
theorem posthornref21_month.mono : ∀ a0 a1 a2 a3 a4 a5 a6 a7 a8 a9 a10 a11 k, LeO (posthornref21_month.f k a0 a1 a2 a3 a4 a5 a6 a7 a8 a9 a10 a11) (posthornref21_month.f (k + 1) a0 a1 a2 a3 a4 a5 a6 a7 a8 a9 a10 a11) := by
  intro a0 a1 a2 a3 a4 a5 a6 a7 a8 a9 a10 a11 k
  obtain ⟨ih0, ih1, ih2⟩ := posthornref21_month.mono_l k
  unfold posthornref21_month.f
  repeat' first
      | (with_reducible exact ih0 _ _ _ _ _ _ _ _ _ _ _ _)
      | (with_reducible exact ih1 _ _ _ _ _ _ _ _ _ _ _)
      | (with_reducible exact ih2 _ _ _ _ _ _ _ _ _ _ _)
      | (with_reducible exact posthornref12_Month.mono _ _ _)
      | (with_reducible exact posthornref21_has.mono _ _ _)
      | (with_reducible exact posthornref21_nth.mono _ _ _ _)
      | (with_reducible exact LeO.refl _)
      | (with_reducible exact LeO.none _)
      | (with_reducible refine LeO.ite ?_ ?_)
      | (with_reducible refine LeO.bind ?_ (fun _ => ?_))
      | exact ih0 _ _ _ _ _ _ _ _ _ _ _ _
      | exact ih1 _ _ _ _ _ _ _ _ _ _ _
      | exact ih2 _ _ _ _ _ _ _ _ _ _ _
      | exact posthornref12_Month.mono _ _ _
      | exact posthornref21_has.mono _ _ _
      | exact posthornref21_nth.mono _ _ _ _
      | exact LeO.none _
      | refine LeO.ite ?_ ?_
      | refine LeO.bind ?_ (fun _ => ?_)
set_option maxHeartbeats 8000000 in
set_option maxRecDepth 100000 in
theorem posthornref21_month.calls (k : Nat) (a0_0 : Int) (a0_1 : Int) (a0_2 : Int) (a0_3 : Int) (A0_4 : Option Addr) (c0_4 : Nat) (l0_4 : List Int) (A0_5 : Option Addr) (c0_5 : Nat) (l0_5 : List Int) (A0_6 : Option Addr) (c0_6 : Nat) (l0_6 : List (S60)) (a1 : Int) (a2 : Int) (a3 : Int) (a4 : Int) (a5 : Int) (r : Bool) (w : World) (hr0_4 : Kd.C (Kd.int .i64) w A0_4 l0_4.length l0_4) (hc0_4 : l0_4.length ≤ c0_4) (hr0_5 : Kd.C (Kd.int .i64) w A0_5 l0_5.length l0_5) (hc0_5 : l0_5.length ≤ c0_5) (hr0_6 : Kd.C k60 w A0_6 l0_6.length l0_6) (hc0_6 : l0_6.length ≤ c0_6) (h : posthornref21_month.f k a0_0 a0_1 a0_2 a0_3 l0_4 l0_5 l0_6 a1 a2 a3 a4 a5 = some r) :
    Calls Tryz.prog 64 #[.agg #[.int .i64 a0_0, .int .i64 a0_1, .int .i64 a0_2, .int .i64 a0_3, .slice A0_4 l0_4.length c0_4, .slice A0_5 l0_5.length c0_5, .slice A0_6 l0_6.length c0_6], .int .i64 a1, .int .i64 a2, .int .i64 a3, .int .i64 a4, .int .i64 a5] w fun e w' => e = .returned (.bool r) ∧ Below w.heap.size w w' := by
  have hu34 := Tryz.underlying34
  have HR0_4 := Aside0.mk hr0_4
  have HC0_4 := Aside0.mk hc0_4
  clear hr0_4 hc0_4
  have HR0_5 := Aside0.mk hr0_5
  have HC0_5 := Aside0.mk hc0_5
  clear hr0_5 hc0_5
  have HR0_6 := Aside0.mk hr0_6
  have HC0_6 := Aside0.mk hc0_6
  clear hr0_6 hc0_6
  have HB := Aside0.mk (Below.refl w.heap.size w)
  have H : ((posthornref12_Month.f k a1 a2).bind fun t332 => (if (l0_5.length : Int) = 0 then (posthornref21_month.j0 k a3 a4 a5 t332 ((l0_6.length : Int) == 0) a0_0 a0_1 a0_2 a0_3 l0_4 l0_5 l0_6) else (posthornref21_month.j0 k a3 a4 a5 t332 false a0_0 a0_1 a0_2 a0_3 l0_4 l0_5 l0_6))) = some r := h
  clear h
  replace H := Option.bind_eq_some_iff.mp H
  obtain ⟨t332, A70, H⟩ := H
  replace H : (if (l0_5.length : Int) = 0 then (posthornref21_month.j0 k a3 a4 a5 t332 ((l0_6.length : Int) == 0) a0_0 a0_1 a0_2 a0_3 l0_4 l0_5 l0_6) else (posthornref21_month.j0 k a3 a4 a5 t332 false a0_0 a0_1 a0_2 a0_3 l0_4 l0_5 l0_6)) = some r := H
  have A7 := Aside0.mk A70
  clear A70
  have HC8 := Aside0.mk H
  clear H
  go_enter Tryz.func64, Tryz.ntmps64
  go_upto_region 2 with (first | ((with_reducible refine gate_dst (N := 6) rfl ?_); (try (refine gate_guard (by rfl) ?_; dsimp only)); refine box_event ?hg (N := 6) ?hd (cs := #[.int .i64 a0_0, .int .i64 a0_1, .int .i64 a0_2, .int .i64 a0_3, .slice A0_4 l0_4.length c0_4, .slice A0_5 l0_5.length c0_5, .slice A0_6 l0_6.length c0_6]) (t := 34) ?hr ?_; (case hd => rfl); (case hg => rfl); (case hr => first | (go_simp; done) | (go_simp; rfl)); intro gb331 hg w9 hbox hb; have n0_ := Aside0.mk (below_step (by repeat (first | (with_reducible first | exact HB.out | apply below_alloc | apply pw_below_drewN | apply below_drew1) | exact HB.out)) hb); have n1_ := Aside0.mk (hbox); have n2_ := Aside0.mk ((by rw [hg]; exact (below_size (by repeat (first | (with_reducible first | exact HB.out | apply below_alloc | apply pw_below_drewN | apply below_drew1) | exact HB.out))) : w.heap.size ≤ gb331)); have n3_ := Aside0.mk ((by rw [hg]; exact (below_size (by repeat (first | (with_reducible first | exact HB.out | apply below_alloc | apply pw_below_drewN | apply below_drew1) | exact HB.out))) : w.heap.size ≤ gb331)); clear HB; have HB := n0_; have BK331 := n1_; have GW331 := n2_; have GE331 := n3_; clear n0_ n1_ n2_ n3_; clear hb hbox hg) | ((with_reducible refine gate_callee (f := 90) rfl ?_); refine goesL_ (some 17) rfl rfl Tryz.func90 (by kernel_rfl) rfl #[.int .i64 a1, .int .i64 a2] rfl (by (try simp only [List.map_toArray, List.map_cons, List.map_nil]); first | done | rfl | (simp only [List.length_drop, List.length_take]; rfl)) ?_; (with_reducible refine (posthornref12_Month.calls k a1 a2 t332 _ A7.out).mono ?_); rintro e w' ⟨rfl, ⟨nd, rfl⟩⟩; refine ⟨_, rfl, ?_⟩))
  (try simp only [Act.put, List.setIfInBounds_toArray, List.set_cons_zero, List.set_cons_succ])
  go_cut [27] (fun v27 wc => ∃ (kq : Nat) (x27_7 : Bool), v27 = .bool x27_7 ∧ Aside0 (posthornref21_month.j0 kq a3 a4 a5 t332 x27_7 a0_0 a0_1 a0_2 a0_3 l0_4 l0_5 l0_6 = some r) ∧ Aside0 (kq ≤ k) ∧ Aside0 (wc.heap[gb331]? = some (.cells #[.int .i64 a0_0, .int .i64 a0_1, .int .i64 a0_2, .int .i64 a0_3, (.slice A0_4 l0_4.length c0_4), (.slice A0_5 l0_5.length c0_5), (.slice A0_6 l0_6.length c0_6)] 34 (0, 0))) ∧ Aside0 (Below w.heap.size w wc))
  case first =>
    have H := HC8.out
    clear HC8
    by_cases c10 : (l0_5.length : Int) = 0
    · rw [if_pos c10] at H
      have c10b0 : ((l0_5.length : Int) == 0) = true := beq_iff_eq.mpr c10
      have c10b1 : ((l0_5.length : Int) != 0) = false := bne_eq_false_iff_eq.mpr c10
      clear c10
      (first | rw [c10b0] | (simp only [i64_w, i32_w]; rw [c10b0]) | skip)
      have H' := Aside0.mk H
      clear H
      have hcz11_0 : w9.cell? ⟨gb331, 0, none⟩ = some (.int .i64 a0_0) := (blk_cell BK331.out 0).trans rfl
      have hcz11_1 : w9.cell? ⟨gb331, 1, none⟩ = some (.int .i64 a0_1) := (blk_cell BK331.out 1).trans rfl
      have hcz11_2 : w9.cell? ⟨gb331, 2, none⟩ = some (.int .i64 a0_2) := (blk_cell BK331.out 2).trans rfl
      have hcz11_3 : w9.cell? ⟨gb331, 3, none⟩ = some (.int .i64 a0_3) := (blk_cell BK331.out 3).trans rfl
      have hcz11_4 : w9.cell? ⟨gb331, 4, none⟩ = some (.slice A0_4 l0_4.length c0_4) := (blk_cell BK331.out 4).trans rfl
      have hcz11_5 : w9.cell? ⟨gb331, 5, none⟩ = some (.slice A0_5 l0_5.length c0_5) := (blk_cell BK331.out 5).trans rfl
      have hcz11_6 : w9.cell? ⟨gb331, 6, none⟩ = some (.slice A0_6 l0_6.length c0_6) := (blk_cell BK331.out 6).trans rfl
      have hfz11_0 := blk_frozen BK331.out 0
      have hfz11_1 := blk_frozen BK331.out 1
      have hfz11_2 := blk_frozen BK331.out 2
      have hfz11_3 := blk_frozen BK331.out 3
      have hfz11_4 := blk_frozen BK331.out 4
      have hfz11_5 := blk_frozen BK331.out 5
      have hfz11_6 := blk_frozen BK331.out 6
      go_wp2
      go_meet
      case rel => exact ⟨_, (((l0_6.length : Int) == 0)), (by first | rfl | (simp; done) | (simp [*]; done)), H', ⟨by first | omega | exact Nat.le_refl _⟩, ⟨by (with_reducible repeat (first | refine blk_drewN ?_ _ | refine blk_drew ?_ | refine blk_alloc ?_ _)); exact BK331.out⟩, ⟨by repeat (first | (with_reducible first | exact HB.out | apply below_alloc | apply pw_below_drewN | apply below_drew1 | refine below_set ?_ GE331.out) | exact HB.out)⟩⟩
    · rw [if_neg c10] at H
      have c10b0 : ((l0_5.length : Int) == 0) = false := beq_eq_false_iff_ne.mpr c10
      have c10b1 : ((l0_5.length : Int) != 0) = true := bne_iff_ne.mpr c10
      have c10b2 : ¬ (l0_5 = []) := fun h_ => c10 (by rw [h_]; rfl)
      (first | rw [c10b0] | (simp only [i64_w, i32_w]; rw [c10b0]) | skip)
      have H' := Aside0.mk H
      clear H
      have hcz12_0 : w9.cell? ⟨gb331, 0, none⟩ = some (.int .i64 a0_0) := (blk_cell BK331.out 0).trans rfl
      have hcz12_1 : w9.cell? ⟨gb331, 1, none⟩ = some (.int .i64 a0_1) := (blk_cell BK331.out 1).trans rfl
      have hcz12_2 : w9.cell? ⟨gb331, 2, none⟩ = some (.int .i64 a0_2) := (blk_cell BK331.out 2).trans rfl
      have hcz12_3 : w9.cell? ⟨gb331, 3, none⟩ = some (.int .i64 a0_3) := (blk_cell BK331.out 3).trans rfl
      have hcz12_4 : w9.cell? ⟨gb331, 4, none⟩ = some (.slice A0_4 l0_4.length c0_4) := (blk_cell BK331.out 4).trans rfl
      have hcz12_5 : w9.cell? ⟨gb331, 5, none⟩ = some (.slice A0_5 l0_5.length c0_5) := (blk_cell BK331.out 5).trans rfl
      have hcz12_6 : w9.cell? ⟨gb331, 6, none⟩ = some (.slice A0_6 l0_6.length c0_6) := (blk_cell BK331.out 6).trans rfl
      have hfz12_0 := blk_frozen BK331.out 0
      have hfz12_1 := blk_frozen BK331.out 1
      have hfz12_2 := blk_frozen BK331.out 2
      have hfz12_3 := blk_frozen BK331.out 3
      have hfz12_4 := blk_frozen BK331.out 4
      have hfz12_5 := blk_frozen BK331.out 5
      have hfz12_6 := blk_frozen BK331.out 6
      go_wp2
      go_meet
      case rel => exact ⟨_, (false), (by first | rfl | (simp; done) | (simp [*]; done)), H', ⟨by first | omega | exact Nat.le_refl _⟩, ⟨by (with_reducible repeat (first | refine blk_drewN ?_ _ | refine blk_drew ?_ | refine blk_alloc ?_ _)); exact BK331.out⟩, ⟨by repeat (first | (with_reducible first | exact HB.out | apply below_alloc | apply pw_below_drewN | apply below_drew1 | refine below_set ?_ GE331.out) | exact HB.out)⟩⟩
  case rest =>
    clear HC8
    try clear c1
    try clear p2
    try clear c6
    try clear c9
    try clear c10
    try clear c10b0
    try clear c10b1
    try clear c10b2
    try clear hcz11_0
    try clear hcz11_1
    try clear hcz11_2
    try clear hcz11_3
    try clear hcz11_4
    try clear hcz11_5
    try clear hcz11_6
    try clear hcz12_0
    try clear hcz12_1
    try clear hcz12_2
    try clear hcz12_3
    try clear hcz12_4
    try clear hcz12_5
    try clear hcz12_6
    try clear hfz11_0
    try clear hfz11_1
    try clear hfz11_2
    try clear hfz11_3
    try clear hfz11_4
    try clear hfz11_5
    try clear hfz11_6
    try clear hfz12_0
    try clear hfz12_1
    try clear hfz12_2
    try clear hfz12_3
    try clear hfz12_4
    try clear hfz12_5
    try clear hfz12_6
    obtain ⟨kq, x27_7, rfl, HA, HJ7, BK331, HB⟩ := hcut
    cases kq with
    | zero => exact absurd HA.out (by simp [posthornref21_month.j0])
    | succ kj7 =>
      have H := HA.out
      clear HA
      simp only [posthornref21_month.j0] at H
      by_cases c13 : x27_7 = true
      · subst c13
        have H1 : (some (a3 == a5)) = some r := by rw [if_pos rfl] at H; exact H
        clear H
        have H := H1
        clear H1
        obtain rfl := Option.some.inj H
        go_wp2
        go_ret
        exact ⟨by first | rfl | (simp [errW_none, errW_some] <;> rfl) | (simp [*, errW_none, errW_some] <;> rfl), by repeat (first | (with_reducible first | exact HB.out | apply below_alloc | apply pw_below_drewN | apply below_drew1 | refine below_set ?_ GE331.out) | exact HB.out)⟩
      · replace c13 := Bool.eq_false_iff.mpr c13
        subst c13
        have H1 : (if (l0_5.length : Int) > 0 then ((posthornref21_has.f kj7 l0_5 a3).bind fun t333 => (if t333 = true then (posthornref21_month.j1 kj7 a3 a4 t332 false a0_0 a0_1 a0_2 a0_3 l0_4 l0_5 l0_6) else ((posthornref21_has.f kj7 l0_5 (wrap64 ((wrap64 (a3 - 1)) - t332))).bind fun t334 => (posthornref21_month.j1 kj7 a3 a4 t332 (!t334) a0_0 a0_1 a0_2 a0_3 l0_4 l0_5 l0_6)))) else (posthornref21_month.j1 kj7 a3 a4 t332 false a0_0 a0_1 a0_2 a0_3 l0_4 l0_5 l0_6)) = some r := by rw [if_neg (show ¬ (false = true) by decide)] at H; exact H
        clear H
        have H := H1
        clear H1
        have HC14 := Aside0.mk H
        clear H
        go_upto_region 4 with (fail)
        go_cut [51] (fun v51 wc => ∃ (kq : Nat) (x51_13 : Bool), v51 = .bool x51_13 ∧ Aside0 (posthornref21_month.j1 kq a3 a4 t332 x51_13 a0_0 a0_1 a0_2 a0_3 l0_4 l0_5 l0_6 = some r) ∧ Aside0 (kq ≤ kj7) ∧ Aside0 (wc.heap[gb331]? = some (.cells #[.int .i64 a0_0, .int .i64 a0_1, .int .i64 a0_2, .int .i64 a0_3, (.slice A0_4 l0_4.length c0_4), (.slice A0_5 l0_5.length c0_5), (.slice A0_6 l0_6.length c0_6)] 34 (0, 0))) ∧ Aside0 (Below w.heap.size w wc))
        case first =>
          have H := HC14.out
          clear HC14
          by_cases c15 : (l0_5.length : Int) > 0
          · rw [if_pos c15] at H
            have c15b0 : decide (0 < (l0_5.length : Int)) = true := decide_eq_true c15
            have c15b1 : decide (0 < l0_5.length) = true := decide_eq_true (by omega)
            clear c15
            (first | rw [c15b0] | (simp only [i64_w, i32_w]; rw [c15b0]) | skip)
            replace H := Option.bind_eq_some_iff.mp H
            obtain ⟨t333, A160, H⟩ := H
            replace H : (if t333 = true then (posthornref21_month.j1 kj7 a3 a4 t332 false a0_0 a0_1 a0_2 a0_3 l0_4 l0_5 l0_6) else ((posthornref21_has.f kj7 l0_5 (wrap64 ((wrap64 (a3 - 1)) - t332))).bind fun t334 => (posthornref21_month.j1 kj7 a3 a4 t332 (!t334) a0_0 a0_1 a0_2 a0_3 l0_4 l0_5 l0_6))) = some r := H
            have A16 := Aside0.mk A160
            clear A160
            by_cases c17 : t333 = true
            · subst c17
              have H1 : (posthornref21_month.j1 kj7 a3 a4 t332 false a0_0 a0_1 a0_2 a0_3 l0_4 l0_5 l0_6) = some r := by rw [if_pos rfl] at H; exact H
              clear H
              have H := H1
              clear H1
              have H' := Aside0.mk H
              clear H
              have hcz18_0 : wc.cell? ⟨gb331, 0, none⟩ = some (.int .i64 a0_0) := (blk_cell BK331.out 0).trans rfl
              have hcz18_1 : wc.cell? ⟨gb331, 1, none⟩ = some (.int .i64 a0_1) := (blk_cell BK331.out 1).trans rfl
              have hcz18_2 : wc.cell? ⟨gb331, 2, none⟩ = some (.int .i64 a0_2) := (blk_cell BK331.out 2).trans rfl
              have hcz18_3 : wc.cell? ⟨gb331, 3, none⟩ = some (.int .i64 a0_3) := (blk_cell BK331.out 3).trans rfl
              have hcz18_4 : wc.cell? ⟨gb331, 4, none⟩ = some (.slice A0_4 l0_4.length c0_4) := (blk_cell BK331.out 4).trans rfl
              have hcz18_5 : wc.cell? ⟨gb331, 5, none⟩ = some (.slice A0_5 l0_5.length c0_5) := (blk_cell BK331.out 5).trans rfl
              have hcz18_6 : wc.cell? ⟨gb331, 6, none⟩ = some (.slice A0_6 l0_6.length c0_6) := (blk_cell BK331.out 6).trans rfl
              have hfz18_0 := blk_frozen BK331.out 0
              have hfz18_1 := blk_frozen BK331.out 1
              have hfz18_2 := blk_frozen BK331.out 2
              have hfz18_3 := blk_frozen BK331.out 3
              have hfz18_4 := blk_frozen BK331.out 4
              have hfz18_5 := blk_frozen BK331.out 5
              have hfz18_6 := blk_frozen BK331.out 6
              go_wp2_with (first | (go_at_call 62; (with_reducible refine (posthornref21_has.calls kj7 _ _ l0_5 a3 true _ ?side1 ?side2 A16.out).mono ?_); (case side1 => repeat (first | exact (Kd.C_below HR0_5.out HB.out) | (with_reducible refine Kd.C_alloc ?_ _) | (with_reducible refine Kd.C_drewN ?_ _) | (with_reducible refine Kd.C_drew ?_))); (case side2 => exact HC0_5.out); rintro e w' ⟨rfl, ⟨nd, rfl⟩⟩))
              go_meet
              case rel => exact ⟨_, (false), (by first | rfl | (simp; done) | (simp [*]; done)), H', ⟨by have := HJ7.out; first | omega | exact Nat.le_refl _⟩, ⟨by (with_reducible repeat (first | refine blk_drewN ?_ _ | refine blk_drew ?_ | refine blk_alloc ?_ _)); exact BK331.out⟩, ⟨by repeat (first | (with_reducible first | exact HB.out | apply below_alloc | apply pw_below_drewN | apply below_drew1 | refine below_set ?_ GE331.out) | exact HB.out)⟩⟩
            · replace c17 := Bool.eq_false_iff.mpr c17
              subst c17
              have H1 : ((posthornref21_has.f kj7 l0_5 (wrap64 ((wrap64 (a3 - 1)) - t332))).bind fun t334 => (posthornref21_month.j1 kj7 a3 a4 t332 (!t334) a0_0 a0_1 a0_2 a0_3 l0_4 l0_5 l0_6)) = some r := by rw [if_neg (show ¬ (false = true) by decide)] at H; exact H
              clear H
              have H := H1
              clear H1
              replace H := Option.bind_eq_some_iff.mp H
              obtain ⟨t334, A190, H⟩ := H
              replace H : (posthornref21_month.j1 kj7 a3 a4 t332 (!t334) a0_0 a0_1 a0_2 a0_3 l0_4 l0_5 l0_6) = some r := H
              have A19 := Aside0.mk A190
              clear A190
              have H' := Aside0.mk H
              clear H
              have hcz20_0 : wc.cell? ⟨gb331, 0, none⟩ = some (.int .i64 a0_0) := (blk_cell BK331.out 0).trans rfl
              have hcz20_1 : wc.cell? ⟨gb331, 1, none⟩ = some (.int .i64 a0_1) := (blk_cell BK331.out 1).trans rfl
              have hcz20_2 : wc.cell? ⟨gb331, 2, none⟩ = some (.int .i64 a0_2) := (blk_cell BK331.out 2).trans rfl
              have hcz20_3 : wc.cell? ⟨gb331, 3, none⟩ = some (.int .i64 a0_3) := (blk_cell BK331.out 3).trans rfl
              have hcz20_4 : wc.cell? ⟨gb331, 4, none⟩ = some (.slice A0_4 l0_4.length c0_4) := (blk_cell BK331.out 4).trans rfl
              have hcz20_5 : wc.cell? ⟨gb331, 5, none⟩ = some (.slice A0_5 l0_5.length c0_5) := (blk_cell BK331.out 5).trans rfl
              have hcz20_6 : wc.cell? ⟨gb331, 6, none⟩ = some (.slice A0_6 l0_6.length c0_6) := (blk_cell BK331.out 6).trans rfl
              have hfz20_0 := blk_frozen BK331.out 0
              have hfz20_1 := blk_frozen BK331.out 1
              have hfz20_2 := blk_frozen BK331.out 2
              have hfz20_3 := blk_frozen BK331.out 3
              have hfz20_4 := blk_frozen BK331.out 4
              have hfz20_5 := blk_frozen BK331.out 5
              have hfz20_6 := blk_frozen BK331.out 6
              go_wp2_with (first | (go_at_call 62; (with_reducible refine (posthornref21_has.calls kj7 _ _ l0_5 a3 false _ ?side1 ?side2 A16.out).mono ?_); (case side1 => repeat (first | exact (Kd.C_below HR0_5.out HB.out) | (with_reducible refine Kd.C_alloc ?_ _) | (with_reducible refine Kd.C_drewN ?_ _) | (with_reducible refine Kd.C_drew ?_))); (case side2 => exact HC0_5.out); rintro e w' ⟨rfl, ⟨nd, rfl⟩⟩) | (go_at_call 62; (with_reducible refine (posthornref21_has.calls kj7 _ _ l0_5 (wrap64 ((wrap64 (a3 - 1)) - t332)) t334 _ ?side1 ?side2 A19.out).mono ?_); (case side1 => repeat (first | exact (Kd.C_below HR0_5.out (by repeat (first | (with_reducible first | exact HB.out | apply below_alloc | apply pw_below_drewN | apply below_drew1 | refine below_set ?_ GE331.out) | exact HB.out))) | (with_reducible refine Kd.C_alloc ?_ _) | (with_reducible refine Kd.C_drewN ?_ _) | (with_reducible refine Kd.C_drew ?_))); (case side2 => exact HC0_5.out); rintro e w' ⟨rfl, ⟨nd, rfl⟩⟩))
              go_meet
              case rel => exact ⟨_, (!t334), (by first | rfl | (simp; done) | (simp [*]; done)), H', ⟨by have := HJ7.out; first | omega | exact Nat.le_refl _⟩, ⟨by (with_reducible repeat (first | refine blk_drewN ?_ _ | refine blk_drew ?_ | refine blk_alloc ?_ _)); exact BK331.out⟩, ⟨by repeat (first | (with_reducible first | exact HB.out | apply below_alloc | apply pw_below_drewN | apply below_drew1 | refine below_set ?_ GE331.out) | exact HB.out)⟩⟩
          · rw [if_neg c15] at H
            have c15b0 : decide (0 < (l0_5.length : Int)) = false := decide_eq_false c15
            have c15b1 : decide (0 < l0_5.length) = false := decide_eq_false (by omega)
            clear c15
            (first | rw [c15b0] | (simp only [i64_w, i32_w]; rw [c15b0]) | skip)
            have H' := Aside0.mk H
            clear H
            have hcz21_0 : wc.cell? ⟨gb331, 0, none⟩ = some (.int .i64 a0_0) := (blk_cell BK331.out 0).trans rfl
            have hcz21_1 : wc.cell? ⟨gb331, 1, none⟩ = some (.int .i64 a0_1) := (blk_cell BK331.out 1).trans rfl
            have hcz21_2 : wc.cell? ⟨gb331, 2, none⟩ = some (.int .i64 a0_2) := (blk_cell BK331.out 2).trans rfl
            have hcz21_3 : wc.cell? ⟨gb331, 3, none⟩ = some (.int .i64 a0_3) := (blk_cell BK331.out 3).trans rfl
            have hcz21_4 : wc.cell? ⟨gb331, 4, none⟩ = some (.slice A0_4 l0_4.length c0_4) := (blk_cell BK331.out 4).trans rfl
            have hcz21_5 : wc.cell? ⟨gb331, 5, none⟩ = some (.slice A0_5 l0_5.length c0_5) := (blk_cell BK331.out 5).trans rfl
            have hcz21_6 : wc.cell? ⟨gb331, 6, none⟩ = some (.slice A0_6 l0_6.length c0_6) := (blk_cell BK331.out 6).trans rfl
            have hfz21_0 := blk_frozen BK331.out 0
            have hfz21_1 := blk_frozen BK331.out 1
            have hfz21_2 := blk_frozen BK331.out 2
            have hfz21_3 := blk_frozen BK331.out 3
            have hfz21_4 := blk_frozen BK331.out 4
            have hfz21_5 := blk_frozen BK331.out 5
            have hfz21_6 := blk_frozen BK331.out 6
            go_wp2
            go_meet
            case rel => exact ⟨_, (false), (by first | rfl | (simp; done) | (simp [*]; done)), H', ⟨by have := HJ7.out; first | omega | exact Nat.le_refl _⟩, ⟨by (with_reducible repeat (first | refine blk_drewN ?_ _ | refine blk_drew ?_ | refine blk_alloc ?_ _)); exact BK331.out⟩, ⟨by repeat (first | (with_reducible first | exact HB.out | apply below_alloc | apply pw_below_drewN | apply below_drew1 | refine below_set ?_ GE331.out) | exact HB.out)⟩⟩
        case rest =>
          clear HC14
          try clear c1
          try clear p2
          try clear c6
          try clear p6
          try clear c9
          try clear c10
          try clear c10b0
          try clear c10b1
          try clear c10b2
          try clear c13
          try clear c15
          try clear c15b0
          try clear c15b1
          try clear c17
          try clear hcz11_0
          try clear hcz11_1
          try clear hcz11_2
          try clear hcz11_3
          try clear hcz11_4
          try clear hcz11_5
          try clear hcz11_6
          try clear hcz12_0
          try clear hcz12_1
          try clear hcz12_2
          try clear hcz12_3
          try clear hcz12_4
          try clear hcz12_5
          try clear hcz12_6
          try clear hcz18_0
          try clear hcz18_1
          try clear hcz18_2
          try clear hcz18_3
          try clear hcz18_4
          try clear hcz18_5
          try clear hcz18_6
          try clear hcz20_0
          try clear hcz20_1
          try clear hcz20_2
          try clear hcz20_3
          try clear hcz20_4
          try clear hcz20_5
          try clear hcz20_6
          try clear hcz21_0
          try clear hcz21_1
          try clear hcz21_2
          try clear hcz21_3
          try clear hcz21_4
          try clear hcz21_5
          try clear hcz21_6
          try clear hfz11_0
          try clear hfz11_1
          try clear hfz11_2
          try clear hfz11_3
          try clear hfz11_4
          try clear hfz11_5
          try clear hfz11_6
          try clear hfz12_0
          try clear hfz12_1
          try clear hfz12_2
          try clear hfz12_3
          try clear hfz12_4
          try clear hfz12_5
          try clear hfz12_6
          try clear hfz18_0
          try clear hfz18_1
          try clear hfz18_2
          try clear hfz18_3
          try clear hfz18_4
          try clear hfz18_5
          try clear hfz18_6
          try clear hfz20_0
          try clear hfz20_1
          try clear hfz20_2
          try clear hfz20_3
          try clear hfz20_4
          try clear hfz20_5
          try clear hfz20_6
          try clear hfz21_0
          try clear hfz21_1
          try clear hfz21_2
          try clear hfz21_3
          try clear hfz21_4
          try clear hfz21_5
          try clear hfz21_6
          try clear p2
          obtain ⟨kq, x51_13, rfl, HA, HJ13, BK331, HB⟩ := hcut
          cases kq with
          | zero => exact absurd HA.out (by simp [posthornref21_month.j1])
          | succ kj13 =>
            have H := HA.out
            clear HA
            simp only [posthornref21_month.j1] at H
            by_cases c22 : x51_13 = true
            · subst c22
              have H1 : (some false) = some r := by rw [if_pos rfl] at H; exact H
              clear H
              have H := H1
              clear H1
              obtain rfl := Option.some.inj H
              go_wp2
              go_ret
              exact ⟨by first | rfl | (simp [errW_none, errW_some] <;> rfl) | (simp [*, errW_none, errW_some] <;> rfl), by repeat (first | (with_reducible first | exact HB.out | apply below_alloc | apply pw_below_drewN | apply below_drew1 | refine below_set ?_ GE331.out) | exact HB.out)⟩
            · replace c22 := Bool.eq_false_iff.mpr c22
              subst c22
              have H1 : (posthornref21_month.l0 kj13 a3 a4 t332 0 a0_0 a0_1 a0_2 a0_3 l0_4 l0_5 l0_6) = some r := by rw [if_neg (show ¬ (false = true) by decide)] at H; exact H
              clear H
              have H := H1
              clear H1
              have H' := Aside0.mk H
              clear H
              go_wp2
              go_loopg [14] kj13 (fun kq v14 w' => ∃ (x14_3 : Int), v14 = .int .i64 x14_3 ∧ Aside0 (posthornref21_month.l0 kq a3 a4 t332 x14_3 a0_0 a0_1 a0_2 a0_3 l0_4 l0_5 l0_6 = some r) ∧ Aside0 (kq ≤ kj13) ∧ Aside0 (w'.heap[gb331]? = some (.cells #[.int .i64 a0_0, .int .i64 a0_1, .int .i64 a0_2, .int .i64 a0_3, (.slice A0_4 l0_4.length c0_4), (.slice A0_5 l0_5.length c0_5), (.slice A0_6 l0_6.length c0_6)] 34 (0, 0))) ∧ Aside0 (Below w.heap.size w w'))
              case atStart => exact ⟨(0), (by first | rfl | (simp; done) | (simp [*]; done)), H', ⟨Nat.le_refl _⟩, ⟨by (with_reducible repeat (first | refine blk_drewN ?_ _ | refine blk_drew ?_ | refine blk_alloc ?_ _)); exact BK331.out⟩, ⟨by repeat (first | (with_reducible first | exact HB.out | apply below_alloc | apply pw_below_drewN | apply below_drew1 | refine below_set ?_ GE331.out) | exact HB.out)⟩⟩
              case round =>
                clear H'
                try clear c1
                try clear c2
                try clear p2
                try clear c6
                try clear p6
                try clear c9
                try clear c10
                try clear c10b0
                try clear c10b1
                try clear c10b2
                try clear c13
                try clear c15
                try clear c15b0
                try clear c15b1
                try clear c17
                try clear c22
                try clear hcz11_0
                try clear hcz11_1
                try clear hcz11_2
                try clear hcz11_3
                try clear hcz11_4
                try clear hcz11_5
                try clear hcz11_6
                try clear hcz12_0
                try clear hcz12_1
                try clear hcz12_2
                try clear hcz12_3
                try clear hcz12_4
                try clear hcz12_5
                try clear hcz12_6
                try clear hcz18_0
                try clear hcz18_1
                try clear hcz18_2
                try clear hcz18_3
                try clear hcz18_4
                try clear hcz18_5
                try clear hcz18_6
                try clear hcz20_0
                try clear hcz20_1
                try clear hcz20_2
                try clear hcz20_3
                try clear hcz20_4
                try clear hcz20_5
                try clear hcz20_6
                try clear hcz21_0
                try clear hcz21_1
                try clear hcz21_2
                try clear hcz21_3
                try clear hcz21_4
                try clear hcz21_5
                try clear hcz21_6
                try clear hfz11_0
                try clear hfz11_1
                try clear hfz11_2
                try clear hfz11_3
                try clear hfz11_4
                try clear hfz11_5
                try clear hfz11_6
                try clear hfz12_0
                try clear hfz12_1
                try clear hfz12_2
                try clear hfz12_3
                try clear hfz12_4
                try clear hfz12_5
                try clear hfz12_6
                try clear hfz18_0
                try clear hfz18_1
                try clear hfz18_2
                try clear hfz18_3
                try clear hfz18_4
                try clear hfz18_5
                try clear hfz18_6
                try clear hfz20_0
                try clear hfz20_1
                try clear hfz20_2
                try clear hfz20_3
                try clear hfz20_4
                try clear hfz20_5
                try clear hfz20_6
                try clear hfz21_0
                try clear hfz21_1
                try clear hfz21_2
                try clear hfz21_3
                try clear hfz21_4
                try clear hfz21_5
                try clear hfz21_6
                try clear p2
                try clear p6
                obtain ⟨x14_3, rfl, HA, HK3, BK331, HB⟩ := hrel
                cases gk with
                | zero => exact absurd HA.out (by simp [posthornref21_month.l0])
                | succ k3 =>
                  have H := HA.out
                  clear HA
                  simp only [posthornref21_month.l0] at H
                  by_cases c23 : x14_3 < (l0_6.length : Int)
                  · rw [if_pos c23] at H
                    have c23b0 : decide (x14_3 < (l0_6.length : Int)) = true := decide_eq_true c23
                    clear c23
                    by_cases c24 : 0 ≤ x14_3
                    · rw [if_pos c24] at H
                      have c24b0 : decide (0 ≤ x14_3) = true := decide_eq_true c24
                      clear c24
                      by_cases c25 : ((rd_T60 l0_6 x14_3).f0) = a4
                      · rw [if_pos c25] at H
                        have c25b0 : (((rd_T60 l0_6 x14_3).f0) == a4) = true := beq_iff_eq.mpr c25
                        have c25b1 : (((rd_T60 l0_6 x14_3).f0) != a4) = false := bne_eq_false_iff_eq.mpr c25
                        clear c25
                        replace H := Option.bind_eq_some_iff.mp H
                        obtain ⟨t337, A260, H⟩ := H
                        replace H : (if t337 = true then (some true) else (posthornref21_month.l0 k3 a3 a4 t332 (wrap64 (x14_3 + 1)) a0_0 a0_1 a0_2 a0_3 l0_4 l0_5 l0_6)) = some r := H
                        have A26 := Aside0.mk A260
                        clear A260
                        by_cases c27 : t337 = true
                        · subst c27
                          have H1 : (some true) = some r := by rw [if_pos rfl] at H; exact H
                          clear H
                          have H := H1
                          clear H1
                          obtain rfl := Option.some.inj H
                          have hcz28_0 : wr.cell? ⟨gb331, 0, none⟩ = some (.int .i64 a0_0) := (blk_cell BK331.out 0).trans rfl
                          have hcz28_1 : wr.cell? ⟨gb331, 1, none⟩ = some (.int .i64 a0_1) := (blk_cell BK331.out 1).trans rfl
                          have hcz28_2 : wr.cell? ⟨gb331, 2, none⟩ = some (.int .i64 a0_2) := (blk_cell BK331.out 2).trans rfl
                          have hcz28_3 : wr.cell? ⟨gb331, 3, none⟩ = some (.int .i64 a0_3) := (blk_cell BK331.out 3).trans rfl
                          have hcz28_4 : wr.cell? ⟨gb331, 4, none⟩ = some (.slice A0_4 l0_4.length c0_4) := (blk_cell BK331.out 4).trans rfl
                          have hcz28_5 : wr.cell? ⟨gb331, 5, none⟩ = some (.slice A0_5 l0_5.length c0_5) := (blk_cell BK331.out 5).trans rfl
                          have hcz28_6 : wr.cell? ⟨gb331, 6, none⟩ = some (.slice A0_6 l0_6.length c0_6) := (blk_cell BK331.out 6).trans rfl
                          have hfz28_0 := blk_frozen BK331.out 0
                          have hfz28_1 := blk_frozen BK331.out 1
                          have hfz28_2 := blk_frozen BK331.out 2
                          have hfz28_3 := blk_frozen BK331.out 3
                          have hfz28_4 := blk_frozen BK331.out 4
                          have hfz28_5 := blk_frozen BK331.out 5
                          have hfz28_6 := blk_frozen BK331.out 6
                          have p335 : 0 ≤ (x14_3 : Int) := of_decide_eq_true (by first | (with_reducible assumption) | assumption)
                          have q335 : x14_3 < (l0_6.length : Int) := of_decide_eq_true (by first | (with_reducible assumption) | assumption)
                          obtain ⟨ad335, e335, hx335_0, hx335_1⟩ := at_T60 HR0_6.out x14_3 p335 q335
                          cases e335
                          replace hx335_0 := (HB.out.cell (World.block_lt_of_cell? w _ hx335_0)).trans hx335_0
                          replace hx335_1 := (HB.out.cell (World.block_lt_of_cell? w _ hx335_1)).trans hx335_1
                          replace p335 := eq_true p335
                          replace q335 := eq_true q335
                          have p336 : 0 ≤ (x14_3 : Int) := of_decide_eq_true (by first | (with_reducible assumption) | assumption)
                          have q336 : x14_3 < (l0_6.length : Int) := of_decide_eq_true (by first | (with_reducible assumption) | assumption)
                          obtain ⟨ad336, e336, hx336_0, hx336_1⟩ := at_T60 HR0_6.out x14_3 p336 q336
                          obtain rfl : ad335 = ad336 := (by injection e336)
                          replace hx336_0 := (HB.out.cell (World.block_lt_of_cell? w _ hx336_0)).trans hx336_0
                          replace hx336_1 := (HB.out.cell (World.block_lt_of_cell? w _ hx336_1)).trans hx336_1
                          replace p336 := eq_true p336
                          replace q336 := eq_true q336
                          go_wp2_with (first | (go_at_call 91; (with_reducible refine (posthornref21_nth.calls k3 a3 t332 ((rd_T60 l0_6 x14_3).f1) true _ A26.out).mono ?_); rintro e w' ⟨rfl, ⟨nd, rfl⟩⟩))
                          go_ret
                          exact ⟨by first | rfl | (simp [errW_none, errW_some] <;> rfl) | (simp [*, errW_none, errW_some] <;> rfl), by repeat (first | (with_reducible first | exact HB.out | apply below_alloc | apply pw_below_drewN | apply below_drew1 | refine below_set ?_ GE331.out) | exact HB.out)⟩
                        · replace c27 := Bool.eq_false_iff.mpr c27
                          subst c27
                          have H1 : (posthornref21_month.l0 k3 a3 a4 t332 (wrap64 (x14_3 + 1)) a0_0 a0_1 a0_2 a0_3 l0_4 l0_5 l0_6) = some r := by rw [if_neg (show ¬ (false = true) by decide)] at H; exact H
                          clear H
                          have H := H1
                          clear H1
                          have H' := Aside0.mk H
                          clear H
                          have hcz29_0 : wr.cell? ⟨gb331, 0, none⟩ = some (.int .i64 a0_0) := (blk_cell BK331.out 0).trans rfl
                          have hcz29_1 : wr.cell? ⟨gb331, 1, none⟩ = some (.int .i64 a0_1) := (blk_cell BK331.out 1).trans rfl
                          have hcz29_2 : wr.cell? ⟨gb331, 2, none⟩ = some (.int .i64 a0_2) := (blk_cell BK331.out 2).trans rfl
                          have hcz29_3 : wr.cell? ⟨gb331, 3, none⟩ = some (.int .i64 a0_3) := (blk_cell BK331.out 3).trans rfl
                          have hcz29_4 : wr.cell? ⟨gb331, 4, none⟩ = some (.slice A0_4 l0_4.length c0_4) := (blk_cell BK331.out 4).trans rfl
                          have hcz29_5 : wr.cell? ⟨gb331, 5, none⟩ = some (.slice A0_5 l0_5.length c0_5) := (blk_cell BK331.out 5).trans rfl
                          have hcz29_6 : wr.cell? ⟨gb331, 6, none⟩ = some (.slice A0_6 l0_6.length c0_6) := (blk_cell BK331.out 6).trans rfl
                          have hfz29_0 := blk_frozen BK331.out 0
                          have hfz29_1 := blk_frozen BK331.out 1
                          have hfz29_2 := blk_frozen BK331.out 2
                          have hfz29_3 := blk_frozen BK331.out 3
                          have hfz29_4 := blk_frozen BK331.out 4
                          have hfz29_5 := blk_frozen BK331.out 5
                          have hfz29_6 := blk_frozen BK331.out 6
                          have p335 : 0 ≤ (x14_3 : Int) := of_decide_eq_true (by first | (with_reducible assumption) | assumption)
                          have q335 : x14_3 < (l0_6.length : Int) := of_decide_eq_true (by first | (with_reducible assumption) | assumption)
                          obtain ⟨ad335, e335, hx335_0, hx335_1⟩ := at_T60 HR0_6.out x14_3 p335 q335
                          cases e335
                          replace hx335_0 := (HB.out.cell (World.block_lt_of_cell? w _ hx335_0)).trans hx335_0
                          replace hx335_1 := (HB.out.cell (World.block_lt_of_cell? w _ hx335_1)).trans hx335_1
                          replace p335 := eq_true p335
                          replace q335 := eq_true q335
                          have p336 : 0 ≤ (x14_3 : Int) := of_decide_eq_true (by first | (with_reducible assumption) | assumption)
                          have q336 : x14_3 < (l0_6.length : Int) := of_decide_eq_true (by first | (with_reducible assumption) | assumption)
                          obtain ⟨ad336, e336, hx336_0, hx336_1⟩ := at_T60 HR0_6.out x14_3 p336 q336
                          obtain rfl : ad335 = ad336 := (by injection e336)
                          replace hx336_0 := (HB.out.cell (World.block_lt_of_cell? w _ hx336_0)).trans hx336_0
                          replace hx336_1 := (HB.out.cell (World.block_lt_of_cell? w _ hx336_1)).trans hx336_1
                          replace p336 := eq_true p336
                          replace q336 := eq_true q336
                          go_wp2_with (first | (go_at_call 91; (with_reducible refine (posthornref21_nth.calls k3 a3 t332 ((rd_T60 l0_6 x14_3).f1) false _ A26.out).mono ?_); rintro e w' ⟨rfl, ⟨nd, rfl⟩⟩))
                          go_roundg k3
                          case measure => have := HJ7.out; have := HJ13.out; have := HK3.out; omega
                          case rel => exact ⟨(wrap64 (x14_3 + 1)), (by first | rfl | (simp; done) | (simp [*]; done)), H', ⟨by have := HJ7.out; have := HJ13.out; have := HK3.out; omega⟩, ⟨by (with_reducible repeat (first | refine blk_drewN ?_ _ | refine blk_drew ?_ | refine blk_alloc ?_ _)); exact BK331.out⟩, ⟨by repeat (first | (with_reducible first | exact HB.out | apply below_alloc | apply pw_below_drewN | apply below_drew1 | refine below_set ?_ GE331.out) | exact HB.out)⟩⟩
                      · rw [if_neg c25] at H
                        have c25b0 : (((rd_T60 l0_6 x14_3).f0) == a4) = false := beq_eq_false_iff_ne.mpr c25
                        have c25b1 : (((rd_T60 l0_6 x14_3).f0) != a4) = true := bne_iff_ne.mpr c25
                        have H' := Aside0.mk H
                        clear H
                        have hcz30_0 : wr.cell? ⟨gb331, 0, none⟩ = some (.int .i64 a0_0) := (blk_cell BK331.out 0).trans rfl
                        have hcz30_1 : wr.cell? ⟨gb331, 1, none⟩ = some (.int .i64 a0_1) := (blk_cell BK331.out 1).trans rfl
                        have hcz30_2 : wr.cell? ⟨gb331, 2, none⟩ = some (.int .i64 a0_2) := (blk_cell BK331.out 2).trans rfl
                        have hcz30_3 : wr.cell? ⟨gb331, 3, none⟩ = some (.int .i64 a0_3) := (blk_cell BK331.out 3).trans rfl
                        have hcz30_4 : wr.cell? ⟨gb331, 4, none⟩ = some (.slice A0_4 l0_4.length c0_4) := (blk_cell BK331.out 4).trans rfl
                        have hcz30_5 : wr.cell? ⟨gb331, 5, none⟩ = some (.slice A0_5 l0_5.length c0_5) := (blk_cell BK331.out 5).trans rfl
                        have hcz30_6 : wr.cell? ⟨gb331, 6, none⟩ = some (.slice A0_6 l0_6.length c0_6) := (blk_cell BK331.out 6).trans rfl
                        have hfz30_0 := blk_frozen BK331.out 0
                        have hfz30_1 := blk_frozen BK331.out 1
                        have hfz30_2 := blk_frozen BK331.out 2
                        have hfz30_3 := blk_frozen BK331.out 3
                        have hfz30_4 := blk_frozen BK331.out 4
                        have hfz30_5 := blk_frozen BK331.out 5
                        have hfz30_6 := blk_frozen BK331.out 6
                        have p335 : 0 ≤ (x14_3 : Int) := of_decide_eq_true (by first | (with_reducible assumption) | assumption)
                        have q335 : x14_3 < (l0_6.length : Int) := of_decide_eq_true (by first | (with_reducible assumption) | assumption)
                        obtain ⟨ad335, e335, hx335_0, hx335_1⟩ := at_T60 HR0_6.out x14_3 p335 q335
                        cases e335
                        replace hx335_0 := (HB.out.cell (World.block_lt_of_cell? w _ hx335_0)).trans hx335_0
                        replace hx335_1 := (HB.out.cell (World.block_lt_of_cell? w _ hx335_1)).trans hx335_1
                        replace p335 := eq_true p335
                        replace q335 := eq_true q335
                        go_wp2
                        go_roundg k3
                        case measure => have := HJ7.out; have := HJ13.out; have := HK3.out; omega
                        case rel => exact ⟨(wrap64 (x14_3 + 1)), (by first | rfl | (simp; done) | (simp [*]; done)), H', ⟨by have := HJ7.out; have := HJ13.out; have := HK3.out; omega⟩, ⟨by (with_reducible repeat (first | refine blk_drewN ?_ _ | refine blk_drew ?_ | refine blk_alloc ?_ _)); exact BK331.out⟩, ⟨by repeat (first | (with_reducible first | exact HB.out | apply below_alloc | apply pw_below_drewN | apply below_drew1 | refine below_set ?_ GE331.out) | exact HB.out)⟩⟩
                    · rw [if_neg c24] at H
                      exact absurd H (by simp)
                  · rw [if_neg c23] at H
                    have c23b0 : decide (x14_3 < (l0_6.length : Int)) = false := decide_eq_false c23
                    clear c23
                    obtain rfl := Option.some.inj H
                    have hcz31_0 : wr.cell? ⟨gb331, 0, none⟩ = some (.int .i64 a0_0) := (blk_cell BK331.out 0).trans rfl
                    have hcz31_1 : wr.cell? ⟨gb331, 1, none⟩ = some (.int .i64 a0_1) := (blk_cell BK331.out 1).trans rfl
                    have hcz31_2 : wr.cell? ⟨gb331, 2, none⟩ = some (.int .i64 a0_2) := (blk_cell BK331.out 2).trans rfl
                    have hcz31_3 : wr.cell? ⟨gb331, 3, none⟩ = some (.int .i64 a0_3) := (blk_cell BK331.out 3).trans rfl
                    have hcz31_4 : wr.cell? ⟨gb331, 4, none⟩ = some (.slice A0_4 l0_4.length c0_4) := (blk_cell BK331.out 4).trans rfl
                    have hcz31_5 : wr.cell? ⟨gb331, 5, none⟩ = some (.slice A0_5 l0_5.length c0_5) := (blk_cell BK331.out 5).trans rfl
                    have hcz31_6 : wr.cell? ⟨gb331, 6, none⟩ = some (.slice A0_6 l0_6.length c0_6) := (blk_cell BK331.out 6).trans rfl
                    have hfz31_0 := blk_frozen BK331.out 0
                    have hfz31_1 := blk_frozen BK331.out 1
                    have hfz31_2 := blk_frozen BK331.out 2
                    have hfz31_3 := blk_frozen BK331.out 3
                    have hfz31_4 := blk_frozen BK331.out 4
                    have hfz31_5 := blk_frozen BK331.out 5
                    have hfz31_6 := blk_frozen BK331.out 6
                    go_wp2
                    go_ret
                    exact ⟨by first | rfl | (simp [errW_none, errW_some] <;> rfl) | (simp [*, errW_none, errW_some] <;> rfl), by repeat (first | (with_reducible first | exact HB.out | apply below_alloc | apply pw_below_drewN | apply below_drew1 | refine below_set ?_ GE331.out) | exact HB.out)⟩
end Go.Proofs.YtfbmjonhohebiaaGreatDoor.PRecurExpands
end
section
namespace Go.Proofs.YtfbmjonhohebiaaGreatDoor.PRecurExpands
open Go.RowKit Go.Proofs.YtfbmjonhohebiaaGreatDoorW.PrintWords Go.Proofs.YtfbmjonhohebiaaGreatDoorW.PrintLast Go.Proofs.YtfbmjonhohebiaaGreatDoorW.PrintMore
attribute [local go_sem] max2_int min2_int max_two min_two max_three min_three max_four min_four
set_option linter.unusedVariables false
set_option linter.unusedSimpArgs false
def posthornref21_Matches.j0 : Nat → Int → Int → Int → Int → Int → Int → Int → Int → Int → Int → Bool → Int → Int → Int → Int → List Int → List Int → List (S60) → Option (Bool)
  | 0, _, _, _, _, _, _, _, _, _, _, _, _, _, _, _, _, _, _ => none
  | k + 1, x1, x2, x7, x8, x9, x11, x12, x13, x15, x17, x57, x339000, x339001, x339002, x339003, x339004, x339005, x339006 => if x57 = true then (some false) else (if x339000 = 1 then (if x339001 = 0 then (none) else (if (Int.tmod (wrap64 (x2 - x1)) x339001) = 0 then (if (x339006.length : Int) = 0 then (some true) else ((posthornref21_on.f k x339000 x339001 x339002 x339003 x339004 x339005 x339006 x15).bind fun t352 => (some t352))) else (some false))) else (if x339000 = 2 then (if x339001 = 0 then (none) else (if (Int.tmod (wrap64 (Int.tdiv (wrap64 ((wrap64 ((wrap64 (x2 - x15)) - x1)) + x17)) 7)) x339001) = 0 then ((posthornref21_on.f k x339000 x339001 x339002 x339003 x339004 x339005 x339006 x15).bind fun t353 => (if t353 = true then (some true) else (if (x339006.length : Int) = 0 then (some (x15 == x17)) else (some false)))) else (some false))) else (if x339000 = 3 then (if x339001 = 0 then (none) else (if (Int.tmod (wrap64 ((wrap64 ((wrap64 ((wrap64 (12 * x7)) + x8)) - (wrap64 (12 * x11)))) - x12)) x339001) = 0 then ((posthornref21_month.f k x339000 x339001 x339002 x339003 x339004 x339005 x339006 x7 x8 x9 x15 x13).bind fun t354 => (some t354)) else (some false))) else (if x339001 = 0 then (none) else (if (Int.tmod (wrap64 (x7 - x11)) x339001) = 0 then (if (x339004.length : Int) > 0 then ((posthornref21_month.f k x339000 x339001 x339002 x339003 x339004 x339005 x339006 x7 x8 x9 x15 x13).bind fun t355 => (some t355)) else (if x8 = x12 then ((posthornref21_month.f k x339000 x339001 x339002 x339003 x339004 x339005 x339006 x7 x8 x9 x15 x13).bind fun t356 => (some t356)) else (some false))) else (some false))))))
def posthornref21_Matches.f (k : Nat) (a0_0 : Int) (a0_1 : Int) (a0_2 : Int) (a0_3 : Int) (l0_4 : List Int) (l0_5 : List Int) (l0_6 : List (S60)) (a1 : Int) (a2 : Int) : Option (Bool) := if a2 < a1 then (some false) else ((posthornref12_Civil.f k a2).bind fun bt339 => ((posthornref12_Civil.f k a1).bind fun bt343 => ((posthornref20_Weekday.f k a2).bind fun bt347 => ((posthornref20_Weekday.f k a1).bind fun bt349 => (if (l0_4.length : Int) > 0 then ((posthornref21_has.f k l0_4 bt339.2.1).bind fun t351 => (posthornref21_Matches.j0 k a1 a2 bt339.1 bt339.2.1 bt339.2.2.1 bt343.1 bt343.2.1 bt343.2.2.1 bt347.1 bt349.1 (!t351) a0_0 a0_1 a0_2 a0_3 l0_4 l0_5 l0_6)) else (posthornref21_Matches.j0 k a1 a2 bt339.1 bt339.2.1 bt339.2.2.1 bt343.1 bt343.2.1 bt343.2.2.1 bt347.1 bt349.1 false a0_0 a0_1 a0_2 a0_3 l0_4 l0_5 l0_6))))))
theorem posthornref21_Matches.mono_l : ∀ k, (∀ y0 y1 y2 y3 y4 y5 y6 y7 y8 y9 y10 y11 y12 y13 y14 y15 y16 y17, LeO (posthornref21_Matches.j0 k y0 y1 y2 y3 y4 y5 y6 y7 y8 y9 y10 y11 y12 y13 y14 y15 y16 y17) (posthornref21_Matches.j0 (k + 1) y0 y1 y2 y3 y4 y5 y6 y7 y8 y9 y10 y11 y12 y13 y14 y15 y16 y17))
  | 0 => fun _ _ _ _ _ _ _ _ _ _ _ _ _ _ _ _ _ _ r h => by simp [posthornref21_Matches.j0] at h
  | k + 1 => by
    have ih0 := posthornref21_Matches.mono_l k
    · intro y0 y1 y2 y3 y4 y5 y6 y7 y8 y9 y10 y11 y12 y13 y14 y15 y16 y17
      unfold posthornref21_Matches.j0
      repeat' first
      | (with_reducible exact ih0 _ _ _ _ _ _ _ _ _ _ _ _ _ _ _ _ _ _)
      | (with_reducible exact posthornref12_Civil.mono _ _)
      | (with_reducible exact posthornref20_Weekday.mono _ _)
      | (with_reducible exact posthornref21_has.mono _ _ _)
      | (with_reducible exact posthornref21_month.mono _ _ _ _ _ _ _ _ _ _ _ _ _)
      | (with_reducible exact posthornref21_on.mono _ _ _ _ _ _ _ _ _)
      | (with_reducible exact LeO.refl _)
      | (with_reducible exact LeO.none _)
      | (with_reducible refine LeO.ite ?_ ?_)
      | (with_reducible refine LeO.bind ?_ (fun _ => ?_))
      | exact ih0 _ _ _ _ _ _ _ _ _ _ _ _ _ _ _ _ _ _
      | exact posthornref12_Civil.mono _ _
      | exact posthornref20_Weekday.mono _ _
      | exact posthornref21_has.mono _ _ _
      | exact posthornref21_month.mono _ _ _ _ _ _ _ _ _ _ _ _ _
      | exact posthornref21_on.mono _ _ _ _ _ _ _ _ _
      | exact LeO.none _
      | refine LeO.ite ?_ ?_
      | refine LeO.bind ?_ (fun _ => ?_)
theorem posthornref21_Matches.mono : ∀ a0 a1 a2 a3 a4 a5 a6 a7 a8 k, LeO (posthornref21_Matches.f k a0 a1 a2 a3 a4 a5 a6 a7 a8) (posthornref21_Matches.f (k + 1) a0 a1 a2 a3 a4 a5 a6 a7 a8) := by
  intro a0 a1 a2 a3 a4 a5 a6 a7 a8 k
  have ih0 := posthornref21_Matches.mono_l k
  unfold posthornref21_Matches.f
  repeat' first
      | (with_reducible exact ih0 _ _ _ _ _ _ _ _ _ _ _ _ _ _ _ _ _ _)
      | (with_reducible exact posthornref12_Civil.mono _ _)
      | (with_reducible exact posthornref20_Weekday.mono _ _)
      | (with_reducible exact posthornref21_has.mono _ _ _)
      | (with_reducible exact posthornref21_month.mono _ _ _ _ _ _ _ _ _ _ _ _ _)
      | (with_reducible exact posthornref21_on.mono _ _ _ _ _ _ _ _ _)
      | (with_reducible exact LeO.refl _)
      | (with_reducible exact LeO.none _)
      | (with_reducible refine LeO.ite ?_ ?_)
      | (with_reducible refine LeO.bind ?_ (fun _ => ?_))
      | exact ih0 _ _ _ _ _ _ _ _ _ _ _ _ _ _ _ _ _ _
      | exact posthornref12_Civil.mono _ _
      | exact posthornref20_Weekday.mono _ _
      | exact posthornref21_has.mono _ _ _
      | exact posthornref21_month.mono _ _ _ _ _ _ _ _ _ _ _ _ _
      | exact posthornref21_on.mono _ _ _ _ _ _ _ _ _
      | exact LeO.none _
      | refine LeO.ite ?_ ?_
      | refine LeO.bind ?_ (fun _ => ?_)
set_option maxHeartbeats 8000000 in
set_option maxRecDepth 100000 in
theorem posthornref21_Matches.calls (k : Nat) (a0_0 : Int) (a0_1 : Int) (a0_2 : Int) (a0_3 : Int) (A0_4 : Option Addr) (c0_4 : Nat) (l0_4 : List Int) (A0_5 : Option Addr) (c0_5 : Nat) (l0_5 : List Int) (A0_6 : Option Addr) (c0_6 : Nat) (l0_6 : List (S60)) (a1 : Int) (a2 : Int) (r : Bool) (w : World) (hr0_4 : Kd.C (Kd.int .i64) w A0_4 l0_4.length l0_4) (hc0_4 : l0_4.length ≤ c0_4) (hr0_5 : Kd.C (Kd.int .i64) w A0_5 l0_5.length l0_5) (hc0_5 : l0_5.length ≤ c0_5) (hr0_6 : Kd.C k60 w A0_6 l0_6.length l0_6) (hc0_6 : l0_6.length ≤ c0_6) (h : posthornref21_Matches.f k a0_0 a0_1 a0_2 a0_3 l0_4 l0_5 l0_6 a1 a2 = some r) :
    Calls Tryz.prog 28 #[.agg #[.int .i64 a0_0, .int .i64 a0_1, .int .i64 a0_2, .int .i64 a0_3, .slice A0_4 l0_4.length c0_4, .slice A0_5 l0_5.length c0_5, .slice A0_6 l0_6.length c0_6], .int .i64 a1, .int .i64 a2] w fun e w' => e = .returned (.bool r) ∧ Below w.heap.size w w' := by
  have hu34 := Tryz.underlying34
  have HR0_4 := Aside0.mk hr0_4
  have HC0_4 := Aside0.mk hc0_4
  clear hr0_4 hc0_4
  have HR0_5 := Aside0.mk hr0_5
  have HC0_5 := Aside0.mk hc0_5
  clear hr0_5 hc0_5
  have HR0_6 := Aside0.mk hr0_6
  have HC0_6 := Aside0.mk hc0_6
  clear hr0_6 hc0_6
  have HB := Aside0.mk (Below.refl w.heap.size w)
  have H : (if a2 < a1 then (some false) else ((posthornref12_Civil.f k a2).bind fun bt339 => ((posthornref12_Civil.f k a1).bind fun bt343 => ((posthornref20_Weekday.f k a2).bind fun bt347 => ((posthornref20_Weekday.f k a1).bind fun bt349 => (if (l0_4.length : Int) > 0 then ((posthornref21_has.f k l0_4 bt339.2.1).bind fun t351 => (posthornref21_Matches.j0 k a1 a2 bt339.1 bt339.2.1 bt339.2.2.1 bt343.1 bt343.2.1 bt343.2.2.1 bt347.1 bt349.1 (!t351) a0_0 a0_1 a0_2 a0_3 l0_4 l0_5 l0_6)) else (posthornref21_Matches.j0 k a1 a2 bt339.1 bt339.2.1 bt339.2.2.1 bt343.1 bt343.2.1 bt343.2.2.1 bt347.1 bt349.1 false a0_0 a0_1 a0_2 a0_3 l0_4 l0_5 l0_6))))))) = some r := h
  clear h
  by_cases c4 : a2 < a1
  · rw [if_pos c4] at H
    have c4b0 : decide (a2 < a1) = true := decide_eq_true c4
    clear c4
    obtain rfl := Option.some.inj H
    go_enter Tryz.func28, Tryz.ntmps28
    go_wp2_with (first | ((with_reducible refine gate_dst (N := 3) rfl ?_); (try (refine gate_guard (by rfl) ?_; dsimp only)); refine box_event ?hg (N := 3) ?hd (cs := #[.int .i64 a0_0, .int .i64 a0_1, .int .i64 a0_2, .int .i64 a0_3, .slice A0_4 l0_4.length c0_4, .slice A0_5 l0_5.length c0_5, .slice A0_6 l0_6.length c0_6]) (t := 34) ?hr ?_; (case hd => rfl); (case hg => rfl); (case hr => first | (go_simp; done) | (go_simp; rfl)); intro gb338 hg w5 hbox hb; have n0_ := Aside0.mk (below_step (by repeat (first | (with_reducible first | exact HB.out | apply below_alloc | apply pw_below_drewN | apply below_drew1) | exact HB.out)) hb); have n1_ := Aside0.mk (hbox); have n2_ := Aside0.mk ((by rw [hg]; exact (below_size (by repeat (first | (with_reducible first | exact HB.out | apply below_alloc | apply pw_below_drewN | apply below_drew1) | exact HB.out))) : w.heap.size ≤ gb338)); have n3_ := Aside0.mk ((by rw [hg]; exact (below_size (by repeat (first | (with_reducible first | exact HB.out | apply below_alloc | apply pw_below_drewN | apply below_drew1) | exact HB.out))) : w.heap.size ≤ gb338)); clear HB; have HB := n0_; have BK338 := n1_; have GW338 := n2_; have GE338 := n3_; clear n0_ n1_ n2_ n3_; clear hb hbox hg))
    go_ret
    exact ⟨by first | rfl | (simp [errW_none, errW_some] <;> rfl) | (simp [*, errW_none, errW_some] <;> rfl), by repeat (first | (with_reducible first | exact HB.out | apply below_alloc | apply pw_below_drewN | apply below_drew1 | refine below_set ?_ GE338.out) | exact HB.out)⟩
  · rw [if_neg c4] at H
    have c4b0 : decide (a2 < a1) = false := decide_eq_false c4
    clear c4
    replace H := Option.bind_eq_some_iff.mp H
    obtain ⟨⟨t339, t340, t341, t342⟩, A60, H⟩ := H
    replace H : ((posthornref12_Civil.f k a1).bind fun bt343 => ((posthornref20_Weekday.f k a2).bind fun bt347 => ((posthornref20_Weekday.f k a1).bind fun bt349 => (if (l0_4.length : Int) > 0 then ((posthornref21_has.f k l0_4 t340).bind fun t351 => (posthornref21_Matches.j0 k a1 a2 t339 t340 t341 bt343.1 bt343.2.1 bt343.2.2.1 bt347.1 bt349.1 (!t351) a0_0 a0_1 a0_2 a0_3 l0_4 l0_5 l0_6)) else (posthornref21_Matches.j0 k a1 a2 t339 t340 t341 bt343.1 bt343.2.1 bt343.2.2.1 bt347.1 bt349.1 false a0_0 a0_1 a0_2 a0_3 l0_4 l0_5 l0_6))))) = some r := H
    have A6 := Aside0.mk A60
    clear A60
    replace H := Option.bind_eq_some_iff.mp H
    obtain ⟨⟨t343, t344, t345, t346⟩, A70, H⟩ := H
    replace H : ((posthornref20_Weekday.f k a2).bind fun bt347 => ((posthornref20_Weekday.f k a1).bind fun bt349 => (if (l0_4.length : Int) > 0 then ((posthornref21_has.f k l0_4 t340).bind fun t351 => (posthornref21_Matches.j0 k a1 a2 t339 t340 t341 t343 t344 t345 bt347.1 bt349.1 (!t351) a0_0 a0_1 a0_2 a0_3 l0_4 l0_5 l0_6)) else (posthornref21_Matches.j0 k a1 a2 t339 t340 t341 t343 t344 t345 bt347.1 bt349.1 false a0_0 a0_1 a0_2 a0_3 l0_4 l0_5 l0_6)))) = some r := H
    have A7 := Aside0.mk A70
    clear A70
    replace H := Option.bind_eq_some_iff.mp H
    obtain ⟨⟨t347, t348⟩, A80, H⟩ := H
    replace H : ((posthornref20_Weekday.f k a1).bind fun bt349 => (if (l0_4.length : Int) > 0 then ((posthornref21_has.f k l0_4 t340).bind fun t351 => (posthornref21_Matches.j0 k a1 a2 t339 t340 t341 t343 t344 t345 t347 bt349.1 (!t351) a0_0 a0_1 a0_2 a0_3 l0_4 l0_5 l0_6)) else (posthornref21_Matches.j0 k a1 a2 t339 t340 t341 t343 t344 t345 t347 bt349.1 false a0_0 a0_1 a0_2 a0_3 l0_4 l0_5 l0_6))) = some r := H
    have A8 := Aside0.mk A80
    clear A80
    replace H := Option.bind_eq_some_iff.mp H
    obtain ⟨⟨t349, t350⟩, A90, H⟩ := H
    replace H : (if (l0_4.length : Int) > 0 then ((posthornref21_has.f k l0_4 t340).bind fun t351 => (posthornref21_Matches.j0 k a1 a2 t339 t340 t341 t343 t344 t345 t347 t349 (!t351) a0_0 a0_1 a0_2 a0_3 l0_4 l0_5 l0_6)) else (posthornref21_Matches.j0 k a1 a2 t339 t340 t341 t343 t344 t345 t347 t349 false a0_0 a0_1 a0_2 a0_3 l0_4 l0_5 l0_6)) = some r := H
    have A9 := Aside0.mk A90
    clear A90
    have HC10 := Aside0.mk H
    clear H
    go_enter Tryz.func28, Tryz.ntmps28
    go_upto_region 7 with (first | ((with_reducible refine gate_dst (N := 3) rfl ?_); (try (refine gate_guard (by rfl) ?_; dsimp only)); refine box_event ?hg (N := 3) ?hd (cs := #[.int .i64 a0_0, .int .i64 a0_1, .int .i64 a0_2, .int .i64 a0_3, .slice A0_4 l0_4.length c0_4, .slice A0_5 l0_5.length c0_5, .slice A0_6 l0_6.length c0_6]) (t := 34) ?hr ?_; (case hd => rfl); (case hg => rfl); (case hr => first | (go_simp; done) | (go_simp; rfl)); intro gb338 hg w11 hbox hb; have n0_ := Aside0.mk (below_step (by repeat (first | (with_reducible first | exact HB.out | apply below_alloc | apply pw_below_drewN | apply below_drew1) | exact HB.out)) hb); have n1_ := Aside0.mk (hbox); have n2_ := Aside0.mk ((by rw [hg]; exact (below_size (by repeat (first | (with_reducible first | exact HB.out | apply below_alloc | apply pw_below_drewN | apply below_drew1) | exact HB.out))) : w.heap.size ≤ gb338)); have n3_ := Aside0.mk ((by rw [hg]; exact (below_size (by repeat (first | (with_reducible first | exact HB.out | apply below_alloc | apply pw_below_drewN | apply below_drew1) | exact HB.out))) : w.heap.size ≤ gb338)); clear HB; have HB := n0_; have BK338 := n1_; have GW338 := n2_; have GE338 := n3_; clear n0_ n1_ n2_ n3_; clear hb hbox hg) | ((with_reducible refine gate_callee (f := 60) rfl ?_); refine goesL_ (some 25) rfl rfl Tryz.func60 (by kernel_rfl) rfl #[.int .i64 a2] rfl (by (try simp only [List.map_toArray, List.map_cons, List.map_nil]); first | done | rfl | (simp only [List.length_drop, List.length_take]; rfl)) ?_; (with_reducible refine (posthornref12_Civil.calls k a2 t339 t340 t341 t342 _ A6.out).mono ?_); rintro e w' ⟨rfl, ⟨nd, rfl⟩⟩; refine ⟨_, rfl, ?_⟩) | ((with_reducible refine gate_callee (f := 60) rfl ?_); refine goesL_ (some 32) rfl rfl Tryz.func60 (by kernel_rfl) rfl #[.int .i64 a1] rfl (by (try simp only [List.map_toArray, List.map_cons, List.map_nil]); first | done | rfl | (simp only [List.length_drop, List.length_take]; rfl)) ?_; (with_reducible refine (posthornref12_Civil.calls k a1 t343 t344 t345 t346 _ A7.out).mono ?_); rintro e w' ⟨rfl, ⟨nd, rfl⟩⟩; refine ⟨_, rfl, ?_⟩) | ((with_reducible refine gate_callee (f := 61) rfl ?_); refine goesL_ (some 39) rfl rfl Tryz.func61 (by kernel_rfl) rfl #[.int .i64 a2] rfl (by (try simp only [List.map_toArray, List.map_cons, List.map_nil]); first | done | rfl | (simp only [List.length_drop, List.length_take]; rfl)) ?_; (with_reducible refine (posthornref20_Weekday.calls k a2 t347 t348 _ A8.out).mono ?_); rintro e w' ⟨rfl, ⟨nd, rfl⟩⟩; refine ⟨_, rfl, ?_⟩) | ((with_reducible refine gate_callee (f := 61) rfl ?_); refine goesL_ (some 44) rfl rfl Tryz.func61 (by kernel_rfl) rfl #[.int .i64 a1] rfl (by (try simp only [List.map_toArray, List.map_cons, List.map_nil]); first | done | rfl | (simp only [List.length_drop, List.length_take]; rfl)) ?_; (with_reducible refine (posthornref20_Weekday.calls k a1 t349 t350 _ A9.out).mono ?_); rintro e w' ⟨rfl, ⟨nd, rfl⟩⟩; refine ⟨_, rfl, ?_⟩))
    (try simp only [Act.put, List.setIfInBounds_toArray, List.set_cons_zero, List.set_cons_succ])
    go_cut [57] (fun v57 wc => ∃ (kq : Nat) (x57_9 : Bool), v57 = .bool x57_9 ∧ Aside0 (posthornref21_Matches.j0 kq a1 a2 t339 t340 t341 t343 t344 t345 t347 t349 x57_9 a0_0 a0_1 a0_2 a0_3 l0_4 l0_5 l0_6 = some r) ∧ Aside0 (kq ≤ k) ∧ Aside0 (wc.heap[gb338]? = some (.cells #[.int .i64 a0_0, .int .i64 a0_1, .int .i64 a0_2, .int .i64 a0_3, (.slice A0_4 l0_4.length c0_4), (.slice A0_5 l0_5.length c0_5), (.slice A0_6 l0_6.length c0_6)] 34 (0, 0))) ∧ Aside0 (Below w.heap.size w wc))
    case first =>
      have H := HC10.out
      clear HC10
      by_cases c12 : (l0_4.length : Int) > 0
      · rw [if_pos c12] at H
        have c12b0 : decide (0 < (l0_4.length : Int)) = true := decide_eq_true c12
        have c12b1 : decide (0 < l0_4.length) = true := decide_eq_true (by omega)
        clear c12
        (first | rw [c12b0] | (simp only [i64_w, i32_w]; rw [c12b0]) | skip)
        replace H := Option.bind_eq_some_iff.mp H
        obtain ⟨t351, A130, H⟩ := H
        replace H : (posthornref21_Matches.j0 k a1 a2 t339 t340 t341 t343 t344 t345 t347 t349 (!t351) a0_0 a0_1 a0_2 a0_3 l0_4 l0_5 l0_6) = some r := H
        have A13 := Aside0.mk A130
        clear A130
        have H' := Aside0.mk H
        clear H
        have hcz14_0 : w11.cell? ⟨gb338, 0, none⟩ = some (.int .i64 a0_0) := (blk_cell BK338.out 0).trans rfl
        have hcz14_1 : w11.cell? ⟨gb338, 1, none⟩ = some (.int .i64 a0_1) := (blk_cell BK338.out 1).trans rfl
        have hcz14_2 : w11.cell? ⟨gb338, 2, none⟩ = some (.int .i64 a0_2) := (blk_cell BK338.out 2).trans rfl
        have hcz14_3 : w11.cell? ⟨gb338, 3, none⟩ = some (.int .i64 a0_3) := (blk_cell BK338.out 3).trans rfl
        have hcz14_4 : w11.cell? ⟨gb338, 4, none⟩ = some (.slice A0_4 l0_4.length c0_4) := (blk_cell BK338.out 4).trans rfl
        have hcz14_5 : w11.cell? ⟨gb338, 5, none⟩ = some (.slice A0_5 l0_5.length c0_5) := (blk_cell BK338.out 5).trans rfl
        have hcz14_6 : w11.cell? ⟨gb338, 6, none⟩ = some (.slice A0_6 l0_6.length c0_6) := (blk_cell BK338.out 6).trans rfl
        have hfz14_0 := blk_frozen BK338.out 0
        have hfz14_1 := blk_frozen BK338.out 1
        have hfz14_2 := blk_frozen BK338.out 2
        have hfz14_3 := blk_frozen BK338.out 3
        have hfz14_4 := blk_frozen BK338.out 4
        have hfz14_5 := blk_frozen BK338.out 5
        have hfz14_6 := blk_frozen BK338.out 6
        go_wp2_with (first | (go_at_call 62; (with_reducible refine (posthornref21_has.calls k _ _ l0_4 t340 t351 _ ?side1 ?side2 A13.out).mono ?_); (case side1 => repeat (first | exact (Kd.C_below HR0_4.out HB.out) | (with_reducible refine Kd.C_alloc ?_ _) | (with_reducible refine Kd.C_drewN ?_ _) | (with_reducible refine Kd.C_drew ?_))); (case side2 => exact HC0_4.out); rintro e w' ⟨rfl, ⟨nd, rfl⟩⟩))
        go_meet
        case rel => exact ⟨_, (!t351), (by first | rfl | (simp; done) | (simp [*]; done)), H', ⟨by first | omega | exact Nat.le_refl _⟩, ⟨by (with_reducible repeat (first | refine blk_drewN ?_ _ | refine blk_drew ?_ | refine blk_alloc ?_ _)); exact BK338.out⟩, ⟨by repeat (first | (with_reducible first | exact HB.out | apply below_alloc | apply pw_below_drewN | apply below_drew1 | refine below_set ?_ GE338.out) | exact HB.out)⟩⟩
      · rw [if_neg c12] at H
        have c12b0 : decide (0 < (l0_4.length : Int)) = false := decide_eq_false c12
        have c12b1 : decide (0 < l0_4.length) = false := decide_eq_false (by omega)
        clear c12
        (first | rw [c12b0] | (simp only [i64_w, i32_w]; rw [c12b0]) | skip)
        have H' := Aside0.mk H
        clear H
        have hcz15_0 : w11.cell? ⟨gb338, 0, none⟩ = some (.int .i64 a0_0) := (blk_cell BK338.out 0).trans rfl
        have hcz15_1 : w11.cell? ⟨gb338, 1, none⟩ = some (.int .i64 a0_1) := (blk_cell BK338.out 1).trans rfl
        have hcz15_2 : w11.cell? ⟨gb338, 2, none⟩ = some (.int .i64 a0_2) := (blk_cell BK338.out 2).trans rfl
        have hcz15_3 : w11.cell? ⟨gb338, 3, none⟩ = some (.int .i64 a0_3) := (blk_cell BK338.out 3).trans rfl
        have hcz15_4 : w11.cell? ⟨gb338, 4, none⟩ = some (.slice A0_4 l0_4.length c0_4) := (blk_cell BK338.out 4).trans rfl
        have hcz15_5 : w11.cell? ⟨gb338, 5, none⟩ = some (.slice A0_5 l0_5.length c0_5) := (blk_cell BK338.out 5).trans rfl
        have hcz15_6 : w11.cell? ⟨gb338, 6, none⟩ = some (.slice A0_6 l0_6.length c0_6) := (blk_cell BK338.out 6).trans rfl
        have hfz15_0 := blk_frozen BK338.out 0
        have hfz15_1 := blk_frozen BK338.out 1
        have hfz15_2 := blk_frozen BK338.out 2
        have hfz15_3 := blk_frozen BK338.out 3
        have hfz15_4 := blk_frozen BK338.out 4
        have hfz15_5 := blk_frozen BK338.out 5
        have hfz15_6 := blk_frozen BK338.out 6
        go_wp2
        go_meet
        case rel => exact ⟨_, (false), (by first | rfl | (simp; done) | (simp [*]; done)), H', ⟨by first | omega | exact Nat.le_refl _⟩, ⟨by (with_reducible repeat (first | refine blk_drewN ?_ _ | refine blk_drew ?_ | refine blk_alloc ?_ _)); exact BK338.out⟩, ⟨by repeat (first | (with_reducible first | exact HB.out | apply below_alloc | apply pw_below_drewN | apply below_drew1 | refine below_set ?_ GE338.out) | exact HB.out)⟩⟩
    case rest =>
      clear HC10
      try clear c1
      try clear c2
      try clear p2
      try clear c4
      try clear c4b0
      try clear c6
      try clear c12
      try clear c12b0
      try clear c12b1
      try clear hcz14_0
      try clear hcz14_1
      try clear hcz14_2
      try clear hcz14_3
      try clear hcz14_4
      try clear hcz14_5
      try clear hcz14_6
      try clear hcz15_0
      try clear hcz15_1
      try clear hcz15_2
      try clear hcz15_3
      try clear hcz15_4
      try clear hcz15_5
      try clear hcz15_6
      try clear hfz14_0
      try clear hfz14_1
      try clear hfz14_2
      try clear hfz14_3
      try clear hfz14_4
      try clear hfz14_5
      try clear hfz14_6
      try clear hfz15_0
      try clear hfz15_1
      try clear hfz15_2
      try clear hfz15_3
      try clear hfz15_4
      try clear hfz15_5
      try clear hfz15_6
      obtain ⟨kq, x57_9, rfl, HA, HJ9, BK338, HB⟩ := hcut
      cases kq with
      | zero => exact absurd HA.out (by simp [posthornref21_Matches.j0])
      | succ kj9 =>
        have H := HA.out
        clear HA
        simp only [posthornref21_Matches.j0] at H
        by_cases c16 : x57_9 = true
        · subst c16
          have H1 : (some false) = some r := by rw [if_pos rfl] at H; exact H
          clear H
          have H := H1
          clear H1
          obtain rfl := Option.some.inj H
          go_wp2
          go_ret
          exact ⟨by first | rfl | (simp [errW_none, errW_some] <;> rfl) | (simp [*, errW_none, errW_some] <;> rfl), by repeat (first | (with_reducible first | exact HB.out | apply below_alloc | apply pw_below_drewN | apply below_drew1 | refine below_set ?_ GE338.out) | exact HB.out)⟩
        · replace c16 := Bool.eq_false_iff.mpr c16
          subst c16
          have H1 : (if a0_0 = 1 then (if a0_1 = 0 then (none) else (if (Int.tmod (wrap64 (a2 - a1)) a0_1) = 0 then (if (l0_6.length : Int) = 0 then (some true) else ((posthornref21_on.f kj9 a0_0 a0_1 a0_2 a0_3 l0_4 l0_5 l0_6 t347).bind fun t352 => (some t352))) else (some false))) else (if a0_0 = 2 then (if a0_1 = 0 then (none) else (if (Int.tmod (wrap64 (Int.tdiv (wrap64 ((wrap64 ((wrap64 (a2 - t347)) - a1)) + t349)) 7)) a0_1) = 0 then ((posthornref21_on.f kj9 a0_0 a0_1 a0_2 a0_3 l0_4 l0_5 l0_6 t347).bind fun t353 => (if t353 = true then (some true) else (if (l0_6.length : Int) = 0 then (some (t347 == t349)) else (some false)))) else (some false))) else (if a0_0 = 3 then (if a0_1 = 0 then (none) else (if (Int.tmod (wrap64 ((wrap64 ((wrap64 ((wrap64 (12 * t339)) + t340)) - (wrap64 (12 * t343)))) - t344)) a0_1) = 0 then ((posthornref21_month.f kj9 a0_0 a0_1 a0_2 a0_3 l0_4 l0_5 l0_6 t339 t340 t341 t347 t345).bind fun t354 => (some t354)) else (some false))) else (if a0_1 = 0 then (none) else (if (Int.tmod (wrap64 (t339 - t343)) a0_1) = 0 then (if (l0_4.length : Int) > 0 then ((posthornref21_month.f kj9 a0_0 a0_1 a0_2 a0_3 l0_4 l0_5 l0_6 t339 t340 t341 t347 t345).bind fun t355 => (some t355)) else (if t340 = t344 then ((posthornref21_month.f kj9 a0_0 a0_1 a0_2 a0_3 l0_4 l0_5 l0_6 t339 t340 t341 t347 t345).bind fun t356 => (some t356)) else (some false))) else (some false)))))) = some r := by rw [if_neg (show ¬ (false = true) by decide)] at H; exact H
          clear H
          have H := H1
          clear H1
          by_cases c17 : a0_0 = 1
          · rw [if_pos c17] at H
            have c17b0 : (a0_0 == 1) = true := beq_iff_eq.mpr c17
            have c17b1 : (a0_0 != 1) = false := bne_eq_false_iff_eq.mpr c17
            clear c17
            by_cases c18 : a0_1 = 0
            · rw [if_pos c18] at H
              exact absurd H (by simp)
            · rw [if_neg c18] at H
              have c18b0 : (a0_1 == 0) = false := beq_eq_false_iff_ne.mpr c18
              have c18b1 : (a0_1 != 0) = true := bne_iff_ne.mpr c18
              by_cases c19 : (Int.tmod (wrap64 (a2 - a1)) a0_1) = 0
              · rw [if_pos c19] at H
                have c19b0 : ((Int.tmod (wrap64 (a2 - a1)) a0_1) == 0) = true := beq_iff_eq.mpr c19
                have c19b1 : ((Int.tmod (wrap64 (a2 - a1)) a0_1) != 0) = false := bne_eq_false_iff_eq.mpr c19
                clear c19
                by_cases c20 : (l0_6.length : Int) = 0
                · rw [if_pos c20] at H
                  have c20b0 : ((l0_6.length : Int) == 0) = true := beq_iff_eq.mpr c20
                  have c20b1 : ((l0_6.length : Int) != 0) = false := bne_eq_false_iff_eq.mpr c20
                  clear c20
                  obtain rfl := Option.some.inj H
                  have hcz21_0 : wc.cell? ⟨gb338, 0, none⟩ = some (.int .i64 a0_0) := (blk_cell BK338.out 0).trans rfl
                  have hcz21_1 : wc.cell? ⟨gb338, 1, none⟩ = some (.int .i64 a0_1) := (blk_cell BK338.out 1).trans rfl
                  have hcz21_2 : wc.cell? ⟨gb338, 2, none⟩ = some (.int .i64 a0_2) := (blk_cell BK338.out 2).trans rfl
                  have hcz21_3 : wc.cell? ⟨gb338, 3, none⟩ = some (.int .i64 a0_3) := (blk_cell BK338.out 3).trans rfl
                  have hcz21_4 : wc.cell? ⟨gb338, 4, none⟩ = some (.slice A0_4 l0_4.length c0_4) := (blk_cell BK338.out 4).trans rfl
                  have hcz21_5 : wc.cell? ⟨gb338, 5, none⟩ = some (.slice A0_5 l0_5.length c0_5) := (blk_cell BK338.out 5).trans rfl
                  have hcz21_6 : wc.cell? ⟨gb338, 6, none⟩ = some (.slice A0_6 l0_6.length c0_6) := (blk_cell BK338.out 6).trans rfl
                  have hfz21_0 := blk_frozen BK338.out 0
                  have hfz21_1 := blk_frozen BK338.out 1
                  have hfz21_2 := blk_frozen BK338.out 2
                  have hfz21_3 := blk_frozen BK338.out 3
                  have hfz21_4 := blk_frozen BK338.out 4
                  have hfz21_5 := blk_frozen BK338.out 5
                  have hfz21_6 := blk_frozen BK338.out 6
                  go_wp2
                  go_ret
                  exact ⟨by first | rfl | (simp [errW_none, errW_some] <;> rfl) | (simp [*, errW_none, errW_some] <;> rfl), by repeat (first | (with_reducible first | exact HB.out | apply below_alloc | apply pw_below_drewN | apply below_drew1 | refine below_set ?_ GE338.out) | exact HB.out)⟩
                · rw [if_neg c20] at H
                  have c20b0 : ((l0_6.length : Int) == 0) = false := beq_eq_false_iff_ne.mpr c20
                  have c20b1 : ((l0_6.length : Int) != 0) = true := bne_iff_ne.mpr c20
                  have c20b2 : ¬ (l0_6 = []) := fun h_ => c20 (by rw [h_]; rfl)
                  replace H := Option.bind_eq_some_iff.mp H
                  obtain ⟨t352, A220, H⟩ := H
                  replace H : (some t352) = some r := H
                  have A22 := Aside0.mk A220
                  clear A220
                  obtain rfl := Option.some.inj H
                  have hcz23_0 : wc.cell? ⟨gb338, 0, none⟩ = some (.int .i64 a0_0) := (blk_cell BK338.out 0).trans rfl
                  have hcz23_1 : wc.cell? ⟨gb338, 1, none⟩ = some (.int .i64 a0_1) := (blk_cell BK338.out 1).trans rfl
                  have hcz23_2 : wc.cell? ⟨gb338, 2, none⟩ = some (.int .i64 a0_2) := (blk_cell BK338.out 2).trans rfl
                  have hcz23_3 : wc.cell? ⟨gb338, 3, none⟩ = some (.int .i64 a0_3) := (blk_cell BK338.out 3).trans rfl
                  have hcz23_4 : wc.cell? ⟨gb338, 4, none⟩ = some (.slice A0_4 l0_4.length c0_4) := (blk_cell BK338.out 4).trans rfl
                  have hcz23_5 : wc.cell? ⟨gb338, 5, none⟩ = some (.slice A0_5 l0_5.length c0_5) := (blk_cell BK338.out 5).trans rfl
                  have hcz23_6 : wc.cell? ⟨gb338, 6, none⟩ = some (.slice A0_6 l0_6.length c0_6) := (blk_cell BK338.out 6).trans rfl
                  have hfz23_0 := blk_frozen BK338.out 0
                  have hfz23_1 := blk_frozen BK338.out 1
                  have hfz23_2 := blk_frozen BK338.out 2
                  have hfz23_3 := blk_frozen BK338.out 3
                  have hfz23_4 := blk_frozen BK338.out 4
                  have hfz23_5 := blk_frozen BK338.out 5
                  have hfz23_6 := blk_frozen BK338.out 6
                  go_wp2_with (first | (go_at_call 63; (with_reducible refine (posthornref21_on.calls kj9 a0_0 a0_1 a0_2 a0_3 _ _ l0_4 _ _ l0_5 _ _ l0_6 t347 t352 _ ?side1 ?side2 ?side3 ?side4 ?side5 ?side6 A22.out).mono ?_); (case side1 => repeat (first | exact (Kd.C_below HR0_4.out HB.out) | (with_reducible refine Kd.C_alloc ?_ _) | (with_reducible refine Kd.C_drewN ?_ _) | (with_reducible refine Kd.C_drew ?_))); (case side2 => exact HC0_4.out); (case side3 => repeat (first | exact (Kd.C_below HR0_5.out HB.out) | (with_reducible refine Kd.C_alloc ?_ _) | (with_reducible refine Kd.C_drewN ?_ _) | (with_reducible refine Kd.C_drew ?_))); (case side4 => exact HC0_5.out); (case side5 => repeat (first | exact (Kd.C_below HR0_6.out HB.out) | (with_reducible refine Kd.C_alloc ?_ _) | (with_reducible refine Kd.C_drewN ?_ _) | (with_reducible refine Kd.C_drew ?_))); (case side6 => exact HC0_6.out); rintro e w24 ⟨rfl, hb⟩; have n0_ := Aside0.mk (blk_below (g := gb338) (o := .cells #[.int .i64 a0_0, .int .i64 a0_1, .int .i64 a0_2, .int .i64 a0_3, .slice A0_4 l0_4.length c0_4, .slice A0_5 l0_5.length c0_5, .slice A0_6 l0_6.length c0_6] 34 (0, 0)) (by (with_reducible repeat (first | refine blk_drewN ?_ _ | refine blk_drew ?_ | refine blk_alloc ?_ _)); exact BK338.out) hb); have n1_ := Aside0.mk (below_step (by repeat (first | (with_reducible first | exact HB.out | apply below_alloc | apply pw_below_drewN | apply below_drew1 | refine below_set ?_ GE338.out) | exact HB.out)) hb); clear BK338; clear HB; have BK338 := n0_; have HB := n1_; clear n0_ n1_; (try clear hb); (try clear hb2); (try clear hk); (try clear hi)))
                  go_ret
                  exact ⟨by first | rfl | (simp [errW_none, errW_some] <;> rfl) | (simp [*, errW_none, errW_some] <;> rfl), by repeat (first | (with_reducible first | exact HB.out | apply below_alloc | apply pw_below_drewN | apply below_drew1 | refine below_set ?_ GE338.out) | exact HB.out)⟩
              · rw [if_neg c19] at H
                have c19b0 : ((Int.tmod (wrap64 (a2 - a1)) a0_1) == 0) = false := beq_eq_false_iff_ne.mpr c19
                have c19b1 : ((Int.tmod (wrap64 (a2 - a1)) a0_1) != 0) = true := bne_iff_ne.mpr c19
                obtain rfl := Option.some.inj H
                have hcz25_0 : wc.cell? ⟨gb338, 0, none⟩ = some (.int .i64 a0_0) := (blk_cell BK338.out 0).trans rfl
                have hcz25_1 : wc.cell? ⟨gb338, 1, none⟩ = some (.int .i64 a0_1) := (blk_cell BK338.out 1).trans rfl
                have hcz25_2 : wc.cell? ⟨gb338, 2, none⟩ = some (.int .i64 a0_2) := (blk_cell BK338.out 2).trans rfl
                have hcz25_3 : wc.cell? ⟨gb338, 3, none⟩ = some (.int .i64 a0_3) := (blk_cell BK338.out 3).trans rfl
                have hcz25_4 : wc.cell? ⟨gb338, 4, none⟩ = some (.slice A0_4 l0_4.length c0_4) := (blk_cell BK338.out 4).trans rfl
                have hcz25_5 : wc.cell? ⟨gb338, 5, none⟩ = some (.slice A0_5 l0_5.length c0_5) := (blk_cell BK338.out 5).trans rfl
                have hcz25_6 : wc.cell? ⟨gb338, 6, none⟩ = some (.slice A0_6 l0_6.length c0_6) := (blk_cell BK338.out 6).trans rfl
                have hfz25_0 := blk_frozen BK338.out 0
                have hfz25_1 := blk_frozen BK338.out 1
                have hfz25_2 := blk_frozen BK338.out 2
                have hfz25_3 := blk_frozen BK338.out 3
                have hfz25_4 := blk_frozen BK338.out 4
                have hfz25_5 := blk_frozen BK338.out 5
                have hfz25_6 := blk_frozen BK338.out 6
                go_wp2
                go_ret
                exact ⟨by first | rfl | (simp [errW_none, errW_some] <;> rfl) | (simp [*, errW_none, errW_some] <;> rfl), by repeat (first | (with_reducible first | exact HB.out | apply below_alloc | apply pw_below_drewN | apply below_drew1 | refine below_set ?_ GE338.out) | exact HB.out)⟩
          · rw [if_neg c17] at H
            have c17b0 : (a0_0 == 1) = false := beq_eq_false_iff_ne.mpr c17
            have c17b1 : (a0_0 != 1) = true := bne_iff_ne.mpr c17
            by_cases c26 : a0_0 = 2
            · rw [if_pos c26] at H
              have c26b0 : (a0_0 == 2) = true := beq_iff_eq.mpr c26
              have c26b1 : (a0_0 != 2) = false := bne_eq_false_iff_eq.mpr c26
              clear c26
              by_cases c27 : a0_1 = 0
              · rw [if_pos c27] at H
                exact absurd H (by simp)
              · rw [if_neg c27] at H
                have c27b0 : (a0_1 == 0) = false := beq_eq_false_iff_ne.mpr c27
                have c27b1 : (a0_1 != 0) = true := bne_iff_ne.mpr c27
                by_cases c28 : (Int.tmod (wrap64 (Int.tdiv (wrap64 ((wrap64 ((wrap64 (a2 - t347)) - a1)) + t349)) 7)) a0_1) = 0
                · rw [if_pos c28] at H
                  have c28b0 : ((Int.tmod (wrap64 (Int.tdiv (wrap64 ((wrap64 ((wrap64 (a2 - t347)) - a1)) + t349)) 7)) a0_1) == 0) = true := beq_iff_eq.mpr c28
                  have c28b1 : ((Int.tmod (wrap64 (Int.tdiv (wrap64 ((wrap64 ((wrap64 (a2 - t347)) - a1)) + t349)) 7)) a0_1) != 0) = false := bne_eq_false_iff_eq.mpr c28
                  clear c28
                  replace H := Option.bind_eq_some_iff.mp H
                  obtain ⟨t353, A290, H⟩ := H
                  replace H : (if t353 = true then (some true) else (if (l0_6.length : Int) = 0 then (some (t347 == t349)) else (some false))) = some r := H
                  have A29 := Aside0.mk A290
                  clear A290
                  by_cases c30 : t353 = true
                  · subst c30
                    have H1 : (some true) = some r := by rw [if_pos rfl] at H; exact H
                    clear H
                    have H := H1
                    clear H1
                    obtain rfl := Option.some.inj H
                    have hcz31_0 : wc.cell? ⟨gb338, 0, none⟩ = some (.int .i64 a0_0) := (blk_cell BK338.out 0).trans rfl
                    have hcz31_1 : wc.cell? ⟨gb338, 1, none⟩ = some (.int .i64 a0_1) := (blk_cell BK338.out 1).trans rfl
                    have hcz31_2 : wc.cell? ⟨gb338, 2, none⟩ = some (.int .i64 a0_2) := (blk_cell BK338.out 2).trans rfl
                    have hcz31_3 : wc.cell? ⟨gb338, 3, none⟩ = some (.int .i64 a0_3) := (blk_cell BK338.out 3).trans rfl
                    have hcz31_4 : wc.cell? ⟨gb338, 4, none⟩ = some (.slice A0_4 l0_4.length c0_4) := (blk_cell BK338.out 4).trans rfl
                    have hcz31_5 : wc.cell? ⟨gb338, 5, none⟩ = some (.slice A0_5 l0_5.length c0_5) := (blk_cell BK338.out 5).trans rfl
                    have hcz31_6 : wc.cell? ⟨gb338, 6, none⟩ = some (.slice A0_6 l0_6.length c0_6) := (blk_cell BK338.out 6).trans rfl
                    have hfz31_0 := blk_frozen BK338.out 0
                    have hfz31_1 := blk_frozen BK338.out 1
                    have hfz31_2 := blk_frozen BK338.out 2
                    have hfz31_3 := blk_frozen BK338.out 3
                    have hfz31_4 := blk_frozen BK338.out 4
                    have hfz31_5 := blk_frozen BK338.out 5
                    have hfz31_6 := blk_frozen BK338.out 6
                    go_wp2_with (first | (go_at_call 63; (with_reducible refine (posthornref21_on.calls kj9 a0_0 a0_1 a0_2 a0_3 _ _ l0_4 _ _ l0_5 _ _ l0_6 t347 true _ ?side1 ?side2 ?side3 ?side4 ?side5 ?side6 A29.out).mono ?_); (case side1 => repeat (first | exact (Kd.C_below HR0_4.out HB.out) | (with_reducible refine Kd.C_alloc ?_ _) | (with_reducible refine Kd.C_drewN ?_ _) | (with_reducible refine Kd.C_drew ?_))); (case side2 => exact HC0_4.out); (case side3 => repeat (first | exact (Kd.C_below HR0_5.out HB.out) | (with_reducible refine Kd.C_alloc ?_ _) | (with_reducible refine Kd.C_drewN ?_ _) | (with_reducible refine Kd.C_drew ?_))); (case side4 => exact HC0_5.out); (case side5 => repeat (first | exact (Kd.C_below HR0_6.out HB.out) | (with_reducible refine Kd.C_alloc ?_ _) | (with_reducible refine Kd.C_drewN ?_ _) | (with_reducible refine Kd.C_drew ?_))); (case side6 => exact HC0_6.out); rintro e w32 ⟨rfl, hb⟩; have n0_ := Aside0.mk (blk_below (g := gb338) (o := .cells #[.int .i64 a0_0, .int .i64 a0_1, .int .i64 a0_2, .int .i64 a0_3, .slice A0_4 l0_4.length c0_4, .slice A0_5 l0_5.length c0_5, .slice A0_6 l0_6.length c0_6] 34 (0, 0)) (by (with_reducible repeat (first | refine blk_drewN ?_ _ | refine blk_drew ?_ | refine blk_alloc ?_ _)); exact BK338.out) hb); have n1_ := Aside0.mk (below_step (by repeat (first | (with_reducible first | exact HB.out | apply below_alloc | apply pw_below_drewN | apply below_drew1 | refine below_set ?_ GE338.out) | exact HB.out)) hb); clear BK338; clear HB; have BK338 := n0_; have HB := n1_; clear n0_ n1_; (try clear hb); (try clear hb2); (try clear hk); (try clear hi)))
                    go_ret
                    exact ⟨by first | rfl | (simp [errW_none, errW_some] <;> rfl) | (simp [*, errW_none, errW_some] <;> rfl), by repeat (first | (with_reducible first | exact HB.out | apply below_alloc | apply pw_below_drewN | apply below_drew1 | refine below_set ?_ GE338.out) | exact HB.out)⟩
                  · replace c30 := Bool.eq_false_iff.mpr c30
                    subst c30
                    have H1 : (if (l0_6.length : Int) = 0 then (some (t347 == t349)) else (some false)) = some r := by rw [if_neg (show ¬ (false = true) by decide)] at H; exact H
                    clear H
                    have H := H1
                    clear H1
                    by_cases c33 : (l0_6.length : Int) = 0
                    · rw [if_pos c33] at H
                      have c33b0 : ((l0_6.length : Int) == 0) = true := beq_iff_eq.mpr c33
                      have c33b1 : ((l0_6.length : Int) != 0) = false := bne_eq_false_iff_eq.mpr c33
                      clear c33
                      obtain rfl := Option.some.inj H
                      have hcz34_0 : wc.cell? ⟨gb338, 0, none⟩ = some (.int .i64 a0_0) := (blk_cell BK338.out 0).trans rfl
                      have hcz34_1 : wc.cell? ⟨gb338, 1, none⟩ = some (.int .i64 a0_1) := (blk_cell BK338.out 1).trans rfl
                      have hcz34_2 : wc.cell? ⟨gb338, 2, none⟩ = some (.int .i64 a0_2) := (blk_cell BK338.out 2).trans rfl
                      have hcz34_3 : wc.cell? ⟨gb338, 3, none⟩ = some (.int .i64 a0_3) := (blk_cell BK338.out 3).trans rfl
                      have hcz34_4 : wc.cell? ⟨gb338, 4, none⟩ = some (.slice A0_4 l0_4.length c0_4) := (blk_cell BK338.out 4).trans rfl
                      have hcz34_5 : wc.cell? ⟨gb338, 5, none⟩ = some (.slice A0_5 l0_5.length c0_5) := (blk_cell BK338.out 5).trans rfl
                      have hcz34_6 : wc.cell? ⟨gb338, 6, none⟩ = some (.slice A0_6 l0_6.length c0_6) := (blk_cell BK338.out 6).trans rfl
                      have hfz34_0 := blk_frozen BK338.out 0
                      have hfz34_1 := blk_frozen BK338.out 1
                      have hfz34_2 := blk_frozen BK338.out 2
                      have hfz34_3 := blk_frozen BK338.out 3
                      have hfz34_4 := blk_frozen BK338.out 4
                      have hfz34_5 := blk_frozen BK338.out 5
                      have hfz34_6 := blk_frozen BK338.out 6
                      go_wp2_with (first | (go_at_call 63; (with_reducible refine (posthornref21_on.calls kj9 a0_0 a0_1 a0_2 a0_3 _ _ l0_4 _ _ l0_5 _ _ l0_6 t347 false _ ?side1 ?side2 ?side3 ?side4 ?side5 ?side6 A29.out).mono ?_); (case side1 => repeat (first | exact (Kd.C_below HR0_4.out HB.out) | (with_reducible refine Kd.C_alloc ?_ _) | (with_reducible refine Kd.C_drewN ?_ _) | (with_reducible refine Kd.C_drew ?_))); (case side2 => exact HC0_4.out); (case side3 => repeat (first | exact (Kd.C_below HR0_5.out HB.out) | (with_reducible refine Kd.C_alloc ?_ _) | (with_reducible refine Kd.C_drewN ?_ _) | (with_reducible refine Kd.C_drew ?_))); (case side4 => exact HC0_5.out); (case side5 => repeat (first | exact (Kd.C_below HR0_6.out HB.out) | (with_reducible refine Kd.C_alloc ?_ _) | (with_reducible refine Kd.C_drewN ?_ _) | (with_reducible refine Kd.C_drew ?_))); (case side6 => exact HC0_6.out); rintro e w35 ⟨rfl, hb⟩; have n0_ := Aside0.mk (blk_below (g := gb338) (o := .cells #[.int .i64 a0_0, .int .i64 a0_1, .int .i64 a0_2, .int .i64 a0_3, .slice A0_4 l0_4.length c0_4, .slice A0_5 l0_5.length c0_5, .slice A0_6 l0_6.length c0_6] 34 (0, 0)) (by (with_reducible repeat (first | refine blk_drewN ?_ _ | refine blk_drew ?_ | refine blk_alloc ?_ _)); exact BK338.out) hb); have n1_ := Aside0.mk (below_step (by repeat (first | (with_reducible first | exact HB.out | apply below_alloc | apply pw_below_drewN | apply below_drew1 | refine below_set ?_ GE338.out) | exact HB.out)) hb); clear BK338; clear HB; have BK338 := n0_; have HB := n1_; clear n0_ n1_; (try clear hb); (try clear hb2); (try clear hk); (try clear hi); have hcz36_0 : w35.cell? ⟨gb338, 0, none⟩ = some (.int .i64 a0_0) := (blk_cell BK338.out 0).trans rfl; have hcz36_1 : w35.cell? ⟨gb338, 1, none⟩ = some (.int .i64 a0_1) := (blk_cell BK338.out 1).trans rfl; have hcz36_2 : w35.cell? ⟨gb338, 2, none⟩ = some (.int .i64 a0_2) := (blk_cell BK338.out 2).trans rfl; have hcz36_3 : w35.cell? ⟨gb338, 3, none⟩ = some (.int .i64 a0_3) := (blk_cell BK338.out 3).trans rfl; have hcz36_4 : w35.cell? ⟨gb338, 4, none⟩ = some (.slice A0_4 l0_4.length c0_4) := (blk_cell BK338.out 4).trans rfl; have hcz36_5 : w35.cell? ⟨gb338, 5, none⟩ = some (.slice A0_5 l0_5.length c0_5) := (blk_cell BK338.out 5).trans rfl; have hcz36_6 : w35.cell? ⟨gb338, 6, none⟩ = some (.slice A0_6 l0_6.length c0_6) := (blk_cell BK338.out 6).trans rfl; have hfz36_0 := blk_frozen BK338.out 0; have hfz36_1 := blk_frozen BK338.out 1; have hfz36_2 := blk_frozen BK338.out 2; have hfz36_3 := blk_frozen BK338.out 3; have hfz36_4 := blk_frozen BK338.out 4; have hfz36_5 := blk_frozen BK338.out 5; have hfz36_6 := blk_frozen BK338.out 6))
                      go_ret
                      exact ⟨by first | rfl | (simp [errW_none, errW_some] <;> rfl) | (simp [*, errW_none, errW_some] <;> rfl), by repeat (first | (with_reducible first | exact HB.out | apply below_alloc | apply pw_below_drewN | apply below_drew1 | refine below_set ?_ GE338.out) | exact HB.out)⟩
                    · rw [if_neg c33] at H
                      have c33b0 : ((l0_6.length : Int) == 0) = false := beq_eq_false_iff_ne.mpr c33
                      have c33b1 : ((l0_6.length : Int) != 0) = true := bne_iff_ne.mpr c33
                      have c33b2 : ¬ (l0_6 = []) := fun h_ => c33 (by rw [h_]; rfl)
                      obtain rfl := Option.some.inj H
                      have hcz37_0 : wc.cell? ⟨gb338, 0, none⟩ = some (.int .i64 a0_0) := (blk_cell BK338.out 0).trans rfl
                      have hcz37_1 : wc.cell? ⟨gb338, 1, none⟩ = some (.int .i64 a0_1) := (blk_cell BK338.out 1).trans rfl
                      have hcz37_2 : wc.cell? ⟨gb338, 2, none⟩ = some (.int .i64 a0_2) := (blk_cell BK338.out 2).trans rfl
                      have hcz37_3 : wc.cell? ⟨gb338, 3, none⟩ = some (.int .i64 a0_3) := (blk_cell BK338.out 3).trans rfl
                      have hcz37_4 : wc.cell? ⟨gb338, 4, none⟩ = some (.slice A0_4 l0_4.length c0_4) := (blk_cell BK338.out 4).trans rfl
                      have hcz37_5 : wc.cell? ⟨gb338, 5, none⟩ = some (.slice A0_5 l0_5.length c0_5) := (blk_cell BK338.out 5).trans rfl
                      have hcz37_6 : wc.cell? ⟨gb338, 6, none⟩ = some (.slice A0_6 l0_6.length c0_6) := (blk_cell BK338.out 6).trans rfl
                      have hfz37_0 := blk_frozen BK338.out 0
                      have hfz37_1 := blk_frozen BK338.out 1
                      have hfz37_2 := blk_frozen BK338.out 2
                      have hfz37_3 := blk_frozen BK338.out 3
                      have hfz37_4 := blk_frozen BK338.out 4
                      have hfz37_5 := blk_frozen BK338.out 5
                      have hfz37_6 := blk_frozen BK338.out 6
                      go_wp2_with (first | (go_at_call 63; (with_reducible refine (posthornref21_on.calls kj9 a0_0 a0_1 a0_2 a0_3 _ _ l0_4 _ _ l0_5 _ _ l0_6 t347 false _ ?side1 ?side2 ?side3 ?side4 ?side5 ?side6 A29.out).mono ?_); (case side1 => repeat (first | exact (Kd.C_below HR0_4.out HB.out) | (with_reducible refine Kd.C_alloc ?_ _) | (with_reducible refine Kd.C_drewN ?_ _) | (with_reducible refine Kd.C_drew ?_))); (case side2 => exact HC0_4.out); (case side3 => repeat (first | exact (Kd.C_below HR0_5.out HB.out) | (with_reducible refine Kd.C_alloc ?_ _) | (with_reducible refine Kd.C_drewN ?_ _) | (with_reducible refine Kd.C_drew ?_))); (case side4 => exact HC0_5.out); (case side5 => repeat (first | exact (Kd.C_below HR0_6.out HB.out) | (with_reducible refine Kd.C_alloc ?_ _) | (with_reducible refine Kd.C_drewN ?_ _) | (with_reducible refine Kd.C_drew ?_))); (case side6 => exact HC0_6.out); rintro e w38 ⟨rfl, hb⟩; have n0_ := Aside0.mk (blk_below (g := gb338) (o := .cells #[.int .i64 a0_0, .int .i64 a0_1, .int .i64 a0_2, .int .i64 a0_3, .slice A0_4 l0_4.length c0_4, .slice A0_5 l0_5.length c0_5, .slice A0_6 l0_6.length c0_6] 34 (0, 0)) (by (with_reducible repeat (first | refine blk_drewN ?_ _ | refine blk_drew ?_ | refine blk_alloc ?_ _)); exact BK338.out) hb); have n1_ := Aside0.mk (below_step (by repeat (first | (with_reducible first | exact HB.out | apply below_alloc | apply pw_below_drewN | apply below_drew1 | refine below_set ?_ GE338.out) | exact HB.out)) hb); clear BK338; clear HB; have BK338 := n0_; have HB := n1_; clear n0_ n1_; (try clear hb); (try clear hb2); (try clear hk); (try clear hi); have hcz39_0 : w38.cell? ⟨gb338, 0, none⟩ = some (.int .i64 a0_0) := (blk_cell BK338.out 0).trans rfl; have hcz39_1 : w38.cell? ⟨gb338, 1, none⟩ = some (.int .i64 a0_1) := (blk_cell BK338.out 1).trans rfl; have hcz39_2 : w38.cell? ⟨gb338, 2, none⟩ = some (.int .i64 a0_2) := (blk_cell BK338.out 2).trans rfl; have hcz39_3 : w38.cell? ⟨gb338, 3, none⟩ = some (.int .i64 a0_3) := (blk_cell BK338.out 3).trans rfl; have hcz39_4 : w38.cell? ⟨gb338, 4, none⟩ = some (.slice A0_4 l0_4.length c0_4) := (blk_cell BK338.out 4).trans rfl; have hcz39_5 : w38.cell? ⟨gb338, 5, none⟩ = some (.slice A0_5 l0_5.length c0_5) := (blk_cell BK338.out 5).trans rfl; have hcz39_6 : w38.cell? ⟨gb338, 6, none⟩ = some (.slice A0_6 l0_6.length c0_6) := (blk_cell BK338.out 6).trans rfl; have hfz39_0 := blk_frozen BK338.out 0; have hfz39_1 := blk_frozen BK338.out 1; have hfz39_2 := blk_frozen BK338.out 2; have hfz39_3 := blk_frozen BK338.out 3; have hfz39_4 := blk_frozen BK338.out 4; have hfz39_5 := blk_frozen BK338.out 5; have hfz39_6 := blk_frozen BK338.out 6))
                      go_ret
                      exact ⟨by first | rfl | (simp [errW_none, errW_some] <;> rfl) | (simp [*, errW_none, errW_some] <;> rfl), by repeat (first | (with_reducible first | exact HB.out | apply below_alloc | apply pw_below_drewN | apply below_drew1 | refine below_set ?_ GE338.out) | exact HB.out)⟩
                · rw [if_neg c28] at H
                  have c28b0 : ((Int.tmod (wrap64 (Int.tdiv (wrap64 ((wrap64 ((wrap64 (a2 - t347)) - a1)) + t349)) 7)) a0_1) == 0) = false := beq_eq_false_iff_ne.mpr c28
                  have c28b1 : ((Int.tmod (wrap64 (Int.tdiv (wrap64 ((wrap64 ((wrap64 (a2 - t347)) - a1)) + t349)) 7)) a0_1) != 0) = true := bne_iff_ne.mpr c28
                  obtain rfl := Option.some.inj H
                  have hcz40_0 : wc.cell? ⟨gb338, 0, none⟩ = some (.int .i64 a0_0) := (blk_cell BK338.out 0).trans rfl
                  have hcz40_1 : wc.cell? ⟨gb338, 1, none⟩ = some (.int .i64 a0_1) := (blk_cell BK338.out 1).trans rfl
                  have hcz40_2 : wc.cell? ⟨gb338, 2, none⟩ = some (.int .i64 a0_2) := (blk_cell BK338.out 2).trans rfl
                  have hcz40_3 : wc.cell? ⟨gb338, 3, none⟩ = some (.int .i64 a0_3) := (blk_cell BK338.out 3).trans rfl
                  have hcz40_4 : wc.cell? ⟨gb338, 4, none⟩ = some (.slice A0_4 l0_4.length c0_4) := (blk_cell BK338.out 4).trans rfl
                  have hcz40_5 : wc.cell? ⟨gb338, 5, none⟩ = some (.slice A0_5 l0_5.length c0_5) := (blk_cell BK338.out 5).trans rfl
                  have hcz40_6 : wc.cell? ⟨gb338, 6, none⟩ = some (.slice A0_6 l0_6.length c0_6) := (blk_cell BK338.out 6).trans rfl
                  have hfz40_0 := blk_frozen BK338.out 0
                  have hfz40_1 := blk_frozen BK338.out 1
                  have hfz40_2 := blk_frozen BK338.out 2
                  have hfz40_3 := blk_frozen BK338.out 3
                  have hfz40_4 := blk_frozen BK338.out 4
                  have hfz40_5 := blk_frozen BK338.out 5
                  have hfz40_6 := blk_frozen BK338.out 6
                  go_wp2
                  go_ret
                  exact ⟨by first | rfl | (simp [errW_none, errW_some] <;> rfl) | (simp [*, errW_none, errW_some] <;> rfl), by repeat (first | (with_reducible first | exact HB.out | apply below_alloc | apply pw_below_drewN | apply below_drew1 | refine below_set ?_ GE338.out) | exact HB.out)⟩
            · rw [if_neg c26] at H
              have c26b0 : (a0_0 == 2) = false := beq_eq_false_iff_ne.mpr c26
              have c26b1 : (a0_0 != 2) = true := bne_iff_ne.mpr c26
              by_cases c41 : a0_0 = 3
              · rw [if_pos c41] at H
                have c41b0 : (a0_0 == 3) = true := beq_iff_eq.mpr c41
                have c41b1 : (a0_0 != 3) = false := bne_eq_false_iff_eq.mpr c41
                clear c41
                by_cases c42 : a0_1 = 0
                · rw [if_pos c42] at H
                  exact absurd H (by simp)
                · rw [if_neg c42] at H
                  have c42b0 : (a0_1 == 0) = false := beq_eq_false_iff_ne.mpr c42
                  have c42b1 : (a0_1 != 0) = true := bne_iff_ne.mpr c42
                  by_cases c43 : (Int.tmod (wrap64 ((wrap64 ((wrap64 ((wrap64 (12 * t339)) + t340)) - (wrap64 (12 * t343)))) - t344)) a0_1) = 0
                  · rw [if_pos c43] at H
                    have c43b0 : ((Int.tmod (wrap64 ((wrap64 ((wrap64 ((wrap64 (12 * t339)) + t340)) - (wrap64 (12 * t343)))) - t344)) a0_1) == 0) = true := beq_iff_eq.mpr c43
                    have c43b1 : ((Int.tmod (wrap64 ((wrap64 ((wrap64 ((wrap64 (12 * t339)) + t340)) - (wrap64 (12 * t343)))) - t344)) a0_1) != 0) = false := bne_eq_false_iff_eq.mpr c43
                    clear c43
                    replace H := Option.bind_eq_some_iff.mp H
                    obtain ⟨t354, A440, H⟩ := H
                    replace H : (some t354) = some r := H
                    have A44 := Aside0.mk A440
                    clear A440
                    obtain rfl := Option.some.inj H
                    have hcz45_0 : wc.cell? ⟨gb338, 0, none⟩ = some (.int .i64 a0_0) := (blk_cell BK338.out 0).trans rfl
                    have hcz45_1 : wc.cell? ⟨gb338, 1, none⟩ = some (.int .i64 a0_1) := (blk_cell BK338.out 1).trans rfl
                    have hcz45_2 : wc.cell? ⟨gb338, 2, none⟩ = some (.int .i64 a0_2) := (blk_cell BK338.out 2).trans rfl
                    have hcz45_3 : wc.cell? ⟨gb338, 3, none⟩ = some (.int .i64 a0_3) := (blk_cell BK338.out 3).trans rfl
                    have hcz45_4 : wc.cell? ⟨gb338, 4, none⟩ = some (.slice A0_4 l0_4.length c0_4) := (blk_cell BK338.out 4).trans rfl
                    have hcz45_5 : wc.cell? ⟨gb338, 5, none⟩ = some (.slice A0_5 l0_5.length c0_5) := (blk_cell BK338.out 5).trans rfl
                    have hcz45_6 : wc.cell? ⟨gb338, 6, none⟩ = some (.slice A0_6 l0_6.length c0_6) := (blk_cell BK338.out 6).trans rfl
                    have hfz45_0 := blk_frozen BK338.out 0
                    have hfz45_1 := blk_frozen BK338.out 1
                    have hfz45_2 := blk_frozen BK338.out 2
                    have hfz45_3 := blk_frozen BK338.out 3
                    have hfz45_4 := blk_frozen BK338.out 4
                    have hfz45_5 := blk_frozen BK338.out 5
                    have hfz45_6 := blk_frozen BK338.out 6
                    go_wp2_with (first | (go_at_call 64; (with_reducible refine (posthornref21_month.calls kj9 a0_0 a0_1 a0_2 a0_3 _ _ l0_4 _ _ l0_5 _ _ l0_6 t339 t340 t341 t347 t345 t354 _ ?side1 ?side2 ?side3 ?side4 ?side5 ?side6 A44.out).mono ?_); (case side1 => repeat (first | exact (Kd.C_below HR0_4.out HB.out) | (with_reducible refine Kd.C_alloc ?_ _) | (with_reducible refine Kd.C_drewN ?_ _) | (with_reducible refine Kd.C_drew ?_))); (case side2 => exact HC0_4.out); (case side3 => repeat (first | exact (Kd.C_below HR0_5.out HB.out) | (with_reducible refine Kd.C_alloc ?_ _) | (with_reducible refine Kd.C_drewN ?_ _) | (with_reducible refine Kd.C_drew ?_))); (case side4 => exact HC0_5.out); (case side5 => repeat (first | exact (Kd.C_below HR0_6.out HB.out) | (with_reducible refine Kd.C_alloc ?_ _) | (with_reducible refine Kd.C_drewN ?_ _) | (with_reducible refine Kd.C_drew ?_))); (case side6 => exact HC0_6.out); rintro e w46 ⟨rfl, hb⟩; have n0_ := Aside0.mk (blk_below (g := gb338) (o := .cells #[.int .i64 a0_0, .int .i64 a0_1, .int .i64 a0_2, .int .i64 a0_3, .slice A0_4 l0_4.length c0_4, .slice A0_5 l0_5.length c0_5, .slice A0_6 l0_6.length c0_6] 34 (0, 0)) (by (with_reducible repeat (first | refine blk_drewN ?_ _ | refine blk_drew ?_ | refine blk_alloc ?_ _)); exact BK338.out) hb); have n1_ := Aside0.mk (below_step (by repeat (first | (with_reducible first | exact HB.out | apply below_alloc | apply pw_below_drewN | apply below_drew1 | refine below_set ?_ GE338.out) | exact HB.out)) hb); clear BK338; clear HB; have BK338 := n0_; have HB := n1_; clear n0_ n1_; (try clear hb); (try clear hb2); (try clear hk); (try clear hi)))
                    go_ret
                    exact ⟨by first | rfl | (simp [errW_none, errW_some] <;> rfl) | (simp [*, errW_none, errW_some] <;> rfl), by repeat (first | (with_reducible first | exact HB.out | apply below_alloc | apply pw_below_drewN | apply below_drew1 | refine below_set ?_ GE338.out) | exact HB.out)⟩
                  · rw [if_neg c43] at H
                    have c43b0 : ((Int.tmod (wrap64 ((wrap64 ((wrap64 ((wrap64 (12 * t339)) + t340)) - (wrap64 (12 * t343)))) - t344)) a0_1) == 0) = false := beq_eq_false_iff_ne.mpr c43
                    have c43b1 : ((Int.tmod (wrap64 ((wrap64 ((wrap64 ((wrap64 (12 * t339)) + t340)) - (wrap64 (12 * t343)))) - t344)) a0_1) != 0) = true := bne_iff_ne.mpr c43
                    obtain rfl := Option.some.inj H
                    have hcz47_0 : wc.cell? ⟨gb338, 0, none⟩ = some (.int .i64 a0_0) := (blk_cell BK338.out 0).trans rfl
                    have hcz47_1 : wc.cell? ⟨gb338, 1, none⟩ = some (.int .i64 a0_1) := (blk_cell BK338.out 1).trans rfl
                    have hcz47_2 : wc.cell? ⟨gb338, 2, none⟩ = some (.int .i64 a0_2) := (blk_cell BK338.out 2).trans rfl
                    have hcz47_3 : wc.cell? ⟨gb338, 3, none⟩ = some (.int .i64 a0_3) := (blk_cell BK338.out 3).trans rfl
                    have hcz47_4 : wc.cell? ⟨gb338, 4, none⟩ = some (.slice A0_4 l0_4.length c0_4) := (blk_cell BK338.out 4).trans rfl
                    have hcz47_5 : wc.cell? ⟨gb338, 5, none⟩ = some (.slice A0_5 l0_5.length c0_5) := (blk_cell BK338.out 5).trans rfl
                    have hcz47_6 : wc.cell? ⟨gb338, 6, none⟩ = some (.slice A0_6 l0_6.length c0_6) := (blk_cell BK338.out 6).trans rfl
                    have hfz47_0 := blk_frozen BK338.out 0
                    have hfz47_1 := blk_frozen BK338.out 1
                    have hfz47_2 := blk_frozen BK338.out 2
                    have hfz47_3 := blk_frozen BK338.out 3
                    have hfz47_4 := blk_frozen BK338.out 4
                    have hfz47_5 := blk_frozen BK338.out 5
                    have hfz47_6 := blk_frozen BK338.out 6
                    go_wp2
                    go_ret
                    exact ⟨by first | rfl | (simp [errW_none, errW_some] <;> rfl) | (simp [*, errW_none, errW_some] <;> rfl), by repeat (first | (with_reducible first | exact HB.out | apply below_alloc | apply pw_below_drewN | apply below_drew1 | refine below_set ?_ GE338.out) | exact HB.out)⟩
              · rw [if_neg c41] at H
                have c41b0 : (a0_0 == 3) = false := beq_eq_false_iff_ne.mpr c41
                have c41b1 : (a0_0 != 3) = true := bne_iff_ne.mpr c41
                by_cases c48 : a0_1 = 0
                · rw [if_pos c48] at H
                  exact absurd H (by simp)
                · rw [if_neg c48] at H
                  have c48b0 : (a0_1 == 0) = false := beq_eq_false_iff_ne.mpr c48
                  have c48b1 : (a0_1 != 0) = true := bne_iff_ne.mpr c48
                  by_cases c49 : (Int.tmod (wrap64 (t339 - t343)) a0_1) = 0
                  · rw [if_pos c49] at H
                    have c49b0 : ((Int.tmod (wrap64 (t339 - t343)) a0_1) == 0) = true := beq_iff_eq.mpr c49
                    have c49b1 : ((Int.tmod (wrap64 (t339 - t343)) a0_1) != 0) = false := bne_eq_false_iff_eq.mpr c49
                    clear c49
                    by_cases c50 : (l0_4.length : Int) > 0
                    · rw [if_pos c50] at H
                      have c50b0 : decide (0 < (l0_4.length : Int)) = true := decide_eq_true c50
                      have c50b1 : decide (0 < l0_4.length) = true := decide_eq_true (by omega)
                      clear c50
                      replace H := Option.bind_eq_some_iff.mp H
                      obtain ⟨t355, A510, H⟩ := H
                      replace H : (some t355) = some r := H
                      have A51 := Aside0.mk A510
                      clear A510
                      obtain rfl := Option.some.inj H
                      have hcz52_0 : wc.cell? ⟨gb338, 0, none⟩ = some (.int .i64 a0_0) := (blk_cell BK338.out 0).trans rfl
                      have hcz52_1 : wc.cell? ⟨gb338, 1, none⟩ = some (.int .i64 a0_1) := (blk_cell BK338.out 1).trans rfl
                      have hcz52_2 : wc.cell? ⟨gb338, 2, none⟩ = some (.int .i64 a0_2) := (blk_cell BK338.out 2).trans rfl
                      have hcz52_3 : wc.cell? ⟨gb338, 3, none⟩ = some (.int .i64 a0_3) := (blk_cell BK338.out 3).trans rfl
                      have hcz52_4 : wc.cell? ⟨gb338, 4, none⟩ = some (.slice A0_4 l0_4.length c0_4) := (blk_cell BK338.out 4).trans rfl
                      have hcz52_5 : wc.cell? ⟨gb338, 5, none⟩ = some (.slice A0_5 l0_5.length c0_5) := (blk_cell BK338.out 5).trans rfl
                      have hcz52_6 : wc.cell? ⟨gb338, 6, none⟩ = some (.slice A0_6 l0_6.length c0_6) := (blk_cell BK338.out 6).trans rfl
                      have hfz52_0 := blk_frozen BK338.out 0
                      have hfz52_1 := blk_frozen BK338.out 1
                      have hfz52_2 := blk_frozen BK338.out 2
                      have hfz52_3 := blk_frozen BK338.out 3
                      have hfz52_4 := blk_frozen BK338.out 4
                      have hfz52_5 := blk_frozen BK338.out 5
                      have hfz52_6 := blk_frozen BK338.out 6
                      go_wp2_with (first | (go_at_call 64; (with_reducible refine (posthornref21_month.calls kj9 a0_0 a0_1 a0_2 a0_3 _ _ l0_4 _ _ l0_5 _ _ l0_6 t339 t340 t341 t347 t345 t355 _ ?side1 ?side2 ?side3 ?side4 ?side5 ?side6 A51.out).mono ?_); (case side1 => repeat (first | exact (Kd.C_below HR0_4.out HB.out) | (with_reducible refine Kd.C_alloc ?_ _) | (with_reducible refine Kd.C_drewN ?_ _) | (with_reducible refine Kd.C_drew ?_))); (case side2 => exact HC0_4.out); (case side3 => repeat (first | exact (Kd.C_below HR0_5.out HB.out) | (with_reducible refine Kd.C_alloc ?_ _) | (with_reducible refine Kd.C_drewN ?_ _) | (with_reducible refine Kd.C_drew ?_))); (case side4 => exact HC0_5.out); (case side5 => repeat (first | exact (Kd.C_below HR0_6.out HB.out) | (with_reducible refine Kd.C_alloc ?_ _) | (with_reducible refine Kd.C_drewN ?_ _) | (with_reducible refine Kd.C_drew ?_))); (case side6 => exact HC0_6.out); rintro e w53 ⟨rfl, hb⟩; have n0_ := Aside0.mk (blk_below (g := gb338) (o := .cells #[.int .i64 a0_0, .int .i64 a0_1, .int .i64 a0_2, .int .i64 a0_3, .slice A0_4 l0_4.length c0_4, .slice A0_5 l0_5.length c0_5, .slice A0_6 l0_6.length c0_6] 34 (0, 0)) (by (with_reducible repeat (first | refine blk_drewN ?_ _ | refine blk_drew ?_ | refine blk_alloc ?_ _)); exact BK338.out) hb); have n1_ := Aside0.mk (below_step (by repeat (first | (with_reducible first | exact HB.out | apply below_alloc | apply pw_below_drewN | apply below_drew1 | refine below_set ?_ GE338.out) | exact HB.out)) hb); clear BK338; clear HB; have BK338 := n0_; have HB := n1_; clear n0_ n1_; (try clear hb); (try clear hb2); (try clear hk); (try clear hi)))
                      go_ret
                      exact ⟨by first | rfl | (simp [errW_none, errW_some] <;> rfl) | (simp [*, errW_none, errW_some] <;> rfl), by repeat (first | (with_reducible first | exact HB.out | apply below_alloc | apply pw_below_drewN | apply below_drew1 | refine below_set ?_ GE338.out) | exact HB.out)⟩
                    · rw [if_neg c50] at H
                      have c50b0 : decide (0 < (l0_4.length : Int)) = false := decide_eq_false c50
                      have c50b1 : decide (0 < l0_4.length) = false := decide_eq_false (by omega)
                      clear c50
                      by_cases c54 : t340 = t344
                      · rw [if_pos c54] at H
                        have c54b0 : (t340 == t344) = true := beq_iff_eq.mpr c54
                        have c54b1 : (t340 != t344) = false := bne_eq_false_iff_eq.mpr c54
                        clear c54
                        replace H := Option.bind_eq_some_iff.mp H
                        obtain ⟨t356, A550, H⟩ := H
                        replace H : (some t356) = some r := H
                        have A55 := Aside0.mk A550
                        clear A550
                        obtain rfl := Option.some.inj H
                        have hcz56_0 : wc.cell? ⟨gb338, 0, none⟩ = some (.int .i64 a0_0) := (blk_cell BK338.out 0).trans rfl
                        have hcz56_1 : wc.cell? ⟨gb338, 1, none⟩ = some (.int .i64 a0_1) := (blk_cell BK338.out 1).trans rfl
                        have hcz56_2 : wc.cell? ⟨gb338, 2, none⟩ = some (.int .i64 a0_2) := (blk_cell BK338.out 2).trans rfl
                        have hcz56_3 : wc.cell? ⟨gb338, 3, none⟩ = some (.int .i64 a0_3) := (blk_cell BK338.out 3).trans rfl
                        have hcz56_4 : wc.cell? ⟨gb338, 4, none⟩ = some (.slice A0_4 l0_4.length c0_4) := (blk_cell BK338.out 4).trans rfl
                        have hcz56_5 : wc.cell? ⟨gb338, 5, none⟩ = some (.slice A0_5 l0_5.length c0_5) := (blk_cell BK338.out 5).trans rfl
                        have hcz56_6 : wc.cell? ⟨gb338, 6, none⟩ = some (.slice A0_6 l0_6.length c0_6) := (blk_cell BK338.out 6).trans rfl
                        have hfz56_0 := blk_frozen BK338.out 0
                        have hfz56_1 := blk_frozen BK338.out 1
                        have hfz56_2 := blk_frozen BK338.out 2
                        have hfz56_3 := blk_frozen BK338.out 3
                        have hfz56_4 := blk_frozen BK338.out 4
                        have hfz56_5 := blk_frozen BK338.out 5
                        have hfz56_6 := blk_frozen BK338.out 6
                        go_wp2_with (first | (go_at_call 64; (with_reducible refine (posthornref21_month.calls kj9 a0_0 a0_1 a0_2 a0_3 _ _ l0_4 _ _ l0_5 _ _ l0_6 t339 t340 t341 t347 t345 t356 _ ?side1 ?side2 ?side3 ?side4 ?side5 ?side6 A55.out).mono ?_); (case side1 => repeat (first | exact (Kd.C_below HR0_4.out HB.out) | (with_reducible refine Kd.C_alloc ?_ _) | (with_reducible refine Kd.C_drewN ?_ _) | (with_reducible refine Kd.C_drew ?_))); (case side2 => exact HC0_4.out); (case side3 => repeat (first | exact (Kd.C_below HR0_5.out HB.out) | (with_reducible refine Kd.C_alloc ?_ _) | (with_reducible refine Kd.C_drewN ?_ _) | (with_reducible refine Kd.C_drew ?_))); (case side4 => exact HC0_5.out); (case side5 => repeat (first | exact (Kd.C_below HR0_6.out HB.out) | (with_reducible refine Kd.C_alloc ?_ _) | (with_reducible refine Kd.C_drewN ?_ _) | (with_reducible refine Kd.C_drew ?_))); (case side6 => exact HC0_6.out); rintro e w57 ⟨rfl, hb⟩; have n0_ := Aside0.mk (blk_below (g := gb338) (o := .cells #[.int .i64 a0_0, .int .i64 a0_1, .int .i64 a0_2, .int .i64 a0_3, .slice A0_4 l0_4.length c0_4, .slice A0_5 l0_5.length c0_5, .slice A0_6 l0_6.length c0_6] 34 (0, 0)) (by (with_reducible repeat (first | refine blk_drewN ?_ _ | refine blk_drew ?_ | refine blk_alloc ?_ _)); exact BK338.out) hb); have n1_ := Aside0.mk (below_step (by repeat (first | (with_reducible first | exact HB.out | apply below_alloc | apply pw_below_drewN | apply below_drew1 | refine below_set ?_ GE338.out) | exact HB.out)) hb); clear BK338; clear HB; have BK338 := n0_; have HB := n1_; clear n0_ n1_; (try clear hb); (try clear hb2); (try clear hk); (try clear hi)))
                        go_ret
                        exact ⟨by first | rfl | (simp [errW_none, errW_some] <;> rfl) | (simp [*, errW_none, errW_some] <;> rfl), by repeat (first | (with_reducible first | exact HB.out | apply below_alloc | apply pw_below_drewN | apply below_drew1 | refine below_set ?_ GE338.out) | exact HB.out)⟩
                      · rw [if_neg c54] at H
                        have c54b0 : (t340 == t344) = false := beq_eq_false_iff_ne.mpr c54
                        have c54b1 : (t340 != t344) = true := bne_iff_ne.mpr c54
                        obtain rfl := Option.some.inj H
                        have hcz58_0 : wc.cell? ⟨gb338, 0, none⟩ = some (.int .i64 a0_0) := (blk_cell BK338.out 0).trans rfl
                        have hcz58_1 : wc.cell? ⟨gb338, 1, none⟩ = some (.int .i64 a0_1) := (blk_cell BK338.out 1).trans rfl
                        have hcz58_2 : wc.cell? ⟨gb338, 2, none⟩ = some (.int .i64 a0_2) := (blk_cell BK338.out 2).trans rfl
                        have hcz58_3 : wc.cell? ⟨gb338, 3, none⟩ = some (.int .i64 a0_3) := (blk_cell BK338.out 3).trans rfl
                        have hcz58_4 : wc.cell? ⟨gb338, 4, none⟩ = some (.slice A0_4 l0_4.length c0_4) := (blk_cell BK338.out 4).trans rfl
                        have hcz58_5 : wc.cell? ⟨gb338, 5, none⟩ = some (.slice A0_5 l0_5.length c0_5) := (blk_cell BK338.out 5).trans rfl
                        have hcz58_6 : wc.cell? ⟨gb338, 6, none⟩ = some (.slice A0_6 l0_6.length c0_6) := (blk_cell BK338.out 6).trans rfl
                        have hfz58_0 := blk_frozen BK338.out 0
                        have hfz58_1 := blk_frozen BK338.out 1
                        have hfz58_2 := blk_frozen BK338.out 2
                        have hfz58_3 := blk_frozen BK338.out 3
                        have hfz58_4 := blk_frozen BK338.out 4
                        have hfz58_5 := blk_frozen BK338.out 5
                        have hfz58_6 := blk_frozen BK338.out 6
                        go_wp2
                        go_ret
                        exact ⟨by first | rfl | (simp [errW_none, errW_some] <;> rfl) | (simp [*, errW_none, errW_some] <;> rfl), by repeat (first | (with_reducible first | exact HB.out | apply below_alloc | apply pw_below_drewN | apply below_drew1 | refine below_set ?_ GE338.out) | exact HB.out)⟩
                  · rw [if_neg c49] at H
                    have c49b0 : ((Int.tmod (wrap64 (t339 - t343)) a0_1) == 0) = false := beq_eq_false_iff_ne.mpr c49
                    have c49b1 : ((Int.tmod (wrap64 (t339 - t343)) a0_1) != 0) = true := bne_iff_ne.mpr c49
                    obtain rfl := Option.some.inj H
                    have hcz59_0 : wc.cell? ⟨gb338, 0, none⟩ = some (.int .i64 a0_0) := (blk_cell BK338.out 0).trans rfl
                    have hcz59_1 : wc.cell? ⟨gb338, 1, none⟩ = some (.int .i64 a0_1) := (blk_cell BK338.out 1).trans rfl
                    have hcz59_2 : wc.cell? ⟨gb338, 2, none⟩ = some (.int .i64 a0_2) := (blk_cell BK338.out 2).trans rfl
                    have hcz59_3 : wc.cell? ⟨gb338, 3, none⟩ = some (.int .i64 a0_3) := (blk_cell BK338.out 3).trans rfl
                    have hcz59_4 : wc.cell? ⟨gb338, 4, none⟩ = some (.slice A0_4 l0_4.length c0_4) := (blk_cell BK338.out 4).trans rfl
                    have hcz59_5 : wc.cell? ⟨gb338, 5, none⟩ = some (.slice A0_5 l0_5.length c0_5) := (blk_cell BK338.out 5).trans rfl
                    have hcz59_6 : wc.cell? ⟨gb338, 6, none⟩ = some (.slice A0_6 l0_6.length c0_6) := (blk_cell BK338.out 6).trans rfl
                    have hfz59_0 := blk_frozen BK338.out 0
                    have hfz59_1 := blk_frozen BK338.out 1
                    have hfz59_2 := blk_frozen BK338.out 2
                    have hfz59_3 := blk_frozen BK338.out 3
                    have hfz59_4 := blk_frozen BK338.out 4
                    have hfz59_5 := blk_frozen BK338.out 5
                    have hfz59_6 := blk_frozen BK338.out 6
                    go_wp2
                    go_ret
                    exact ⟨by first | rfl | (simp [errW_none, errW_some] <;> rfl) | (simp [*, errW_none, errW_some] <;> rfl), by repeat (first | (with_reducible first | exact HB.out | apply below_alloc | apply pw_below_drewN | apply below_drew1 | refine below_set ?_ GE338.out) | exact HB.out)⟩
end Go.Proofs.YtfbmjonhohebiaaGreatDoor.PRecurExpands
end
section
set_option linter.unusedVariables false
set_option linter.unusedSimpArgs false
namespace Go.Proofs.YtfbmjonhohebiaaGreatDoor
open Go.RowKit Go.Proofs.YtfbmjonhohebiaaGreatDoorW.PrintWords Go.Proofs.YtfbmjonhohebiaaGreatDoorW.PrintLast Go.Proofs.YtfbmjonhohebiaaGreatDoorW.PrintMore PRecurExpands
theorem ref_year (y : Int) (h : 0 ≤ y) : posthornref12_Year.f y = some (Cal.ylen y) := by
  unfold posthornref12_Year.f Cal.ylen Cal.leap
  rw [Int.tmod_eq_emod_of_nonneg h, Int.tmod_eq_emod_of_nonneg h, Int.tmod_eq_emod_of_nonneg h]
  by_cases h4 : y % 400 = 0
  · rw [if_pos h4]; simp [h4]
  · rw [if_neg h4]
    by_cases h1 : y % 4 = 0
    · rw [if_pos h1]
      by_cases h2 : y % 100 = 0
      · rw [if_pos h2]; simp [h4, h1, h2]
      · rw [if_neg h2]; simp [h4, h1, h2]
    · rw [if_neg h1]; simp [h4, h1]
theorem ref_month_ev (y m : Int) (h : 0 ≤ y) : Ev (fun k => posthornref12_Month.f k y m) (Cal.mlen y m) := by
  have yes : m = 4 ∨ m = 6 ∨ m = 9 ∨ m = 11 → Cal.mlen y m = 30 := fun hm => by unfold Cal.mlen; rw [if_neg (by omega), if_pos hm]
  have J : ∀ b : Bool, (b = true ↔ (m = 4 ∨ m = 6 ∨ m = 9 ∨ m = 11)) → Ev (fun k => posthornref12_Month.j0 k y m b) (Cal.mlen y m) := by
    intro b hb
    refine Ev.succ ?_
    simp only [posthornref12_Month.j0]
    refine Ev.ite (fun hx => by rw [yes (hb.mp hx)]; exact Ev.now _) (fun hx => Ev.ite (fun e => ?_) (fun e => ?_))
    · simp only [ref_year y h, Option.bind_some]
      subst e
      have : wrap64 (Cal.ylen y - 337) = Cal.mlen y 2 := by
        unfold Cal.ylen Cal.mlen
        rw [if_pos rfl]
        split <;> (rw [wrap64_in (by omega) (by omega)]; rfl)
      rw [this]; exact Ev.now _
    · have : Cal.mlen y m = 31 := by unfold Cal.mlen; rw [if_neg e, if_neg (fun hc => hx (hb.mpr hc))]
      rw [this]; exact Ev.now _
  unfold posthornref12_Month.f
  refine Ev.ite (fun e => J _ ?_) (fun n4 => Ev.ite (fun e => J _ ?_) (fun n6 => Ev.ite (fun e => J _ ?_) (fun n9 => J _ ?_)))
  · simp [e]
  · simp [e]
  · simp [e]
  · simp [n4, n6, n9]
theorem ref_civil_ev (n : Int) (h0 : 0 ≤ n) (h1 : n ≤ 2932896) : Ev (fun k => posthornref12_Civil.f k n) ((civ n).1, (civ n).2.1, (civ n).2.2, 0) := by
  have hc := civ_spec h0 h1
  generalize (civ n).1 = Y, (civ n).2.1 = M, (civ n).2.2 = D at hc ⊢
  obtain ⟨y0, y1, m0, m1, d0, d1, eq⟩ := hc
  have cb := Cal.cum_bd Y M m0 (by omega)
  have yb : ∀ y, Cal.ylen y ≤ 366 ∧ 365 ≤ Cal.ylen y := fun y => by have := Cal.ylen_bd y; omega
  have b70 := Cal.bef_1970
  have bmx := Cal.bef_10000
  have ml := Cal.mlen_bd Y M
  have bY := Cal.bef_mono (a := 1970) (b := Y) (by omega)
  have c13 := Cal.cum_13 Y
  have cs := Cal.cum_succ Y M m0 m1
  have cm := Cal.cum_mono (y := Y) (a := M + 1) (b := 13) (by omega) (by omega) (by omega)

  have months : ∀ (d : Nat) (m : Int), M - m = d → 1 ≤ m → Ev (fun k => posthornref12_Civil.l1 k (n - Cal.bef Y - Cal.cum Y m) Y m) (Y, M, D, 0) := by
    intro d
    induction d with
    | zero =>
      intro m hd hm
      obtain rfl : m = M := by omega
      refine Ev.succ ?_
      simp only [posthornref12_Civil.l1]
      refine Ev.bind (ref_month_ev Y m (by omega)) (Ev.neg (by omega) ?_)
      rw [wrap64_in (by omega) (by omega), show n - Cal.bef Y - Cal.cum Y m + 1 = D by omega]
      exact Ev.now _
    | succ d ih =>
      intro m hd hm
      have hs := Cal.cum_succ Y m hm (by omega)
      have hmo := Cal.cum_mono (y := Y) (a := m + 1) (b := M) (by omega) (by omega) (by omega)
      have hb0 := Cal.cum_bd Y m hm (by omega)
      have hml := Cal.mlen_bd Y m
      refine Ev.succ ?_
      simp only [posthornref12_Civil.l1]
      refine Ev.bind (ref_month_ev Y m (by omega)) (Ev.pos (by omega) (Ev.bind (ref_month_ev Y m (by omega)) ?_))
      rw [wrap64_in (x := n - Cal.bef Y - Cal.cum Y m - Cal.mlen Y m) (by omega) (by omega), wrap64_in (x := m + 1) (by omega) (by omega), show n - Cal.bef Y - Cal.cum Y m - Cal.mlen Y m = n - Cal.bef Y - Cal.cum Y (m + 1) by omega]
      exact ih (m + 1) (by omega) (by omega)
  have years : ∀ (d : Nat) (y : Int), Y - y = d → 1970 ≤ y → Ev (fun k => posthornref12_Civil.l0 k (n - Cal.bef y) y 1) (Y, M, D, 0) := by
    intro d
    induction d with
    | zero =>
      intro y hd hy
      obtain rfl : y = Y := by omega
      refine Ev.succ ?_
      simp only [posthornref12_Civil.l0, ref_year y (by omega), Option.bind_some]
      refine Ev.neg (by omega) ?_
      have := months (M - 1).toNat 1 (by omega) (by omega)
      rw [Cal.cum_one] at this
      simpa using this
    | succ d ih =>
      intro y hd hy
      have hs := Cal.bef_succ y
      have hmo := Cal.bef_mono (a := y + 1) (b := Y) (by omega)
      have hb := yb y
      have hbm := Cal.bef_mono (a := 1970) (b := y) (by omega)
      refine Ev.succ ?_
      simp only [posthornref12_Civil.l0, ref_year y (by omega), Option.bind_some]
      refine Ev.pos (by omega) ?_
      rw [wrap64_in (x := n - Cal.bef y - Cal.ylen y) (by omega) (by omega), wrap64_in (x := y + 1) (by omega) (by omega), show n - Cal.bef y - Cal.ylen y = n - Cal.bef (y + 1) by omega]
      exact ih (y + 1) (by omega) (by omega)
  unfold posthornref12_Civil.f
  refine Ev.neg (by omega) ?_
  rw [decide_eq_false (by omega)]
  refine Ev.succ ?_
  simp only [posthornref12_Civil.j0]
  refine Ev.neg (by decide) ?_
  have := years (Y - 1970).toNat 1970 (by omega) (by omega)
  rw [b70] at this
  simpa using this
theorem ref_weekday_ev (n : Int) (h0 : 0 ≤ n) (h1 : n ≤ 2932896) : Ev (fun k => posthornref20_Weekday.f k n) ((n + 3) % 7, 0) := by
  unfold posthornref20_Weekday.f
  refine Ev.neg (by omega) ?_
  rw [decide_eq_false (by omega)]
  refine Ev.succ ?_
  simp only [posthornref20_Weekday.j0]
  rw [Int.tmod_eq_emod_of_nonneg h0]
  refine Ev.neg (by decide) (Ev.ite (fun h => ?_) (fun h => ?_))
  · rw [wrap64_in (by omega) (by omega), show n % 7 + 3 = (n + 3) % 7 by omega]; exact Ev.now _
  · rw [wrap64_in (by omega) (by omega), show n % 7 - 4 = (n + 3) % 7 by omega]; exact Ev.now _
theorem ref_has_ev (l : List Int) (a : Int) (hl : l.length ≤ 1000000000) : Ev (fun k => posthornref21_has.f k l a) (hasI l a) := by
  refine Exists.elim (ev_exists (g := fun i k => posthornref21_has.l0 k l a i) (n := l.length) (P := fun i => l.getD i 0 = a) ?_ ?_ ?_) (fun b hbb => ?_)
  rotate_left 3
  · obtain ⟨h, hb⟩ := hbb
    have : hasI l a = b := by
      rw [Bool.eq_iff_iff, hb]
      unfold hasI
      rw [List.contains_iff_mem, List.mem_iff_getElem]
      exact ⟨fun ⟨i, hi, e⟩ => ⟨i, hi, by simpa [hi] using e⟩, fun ⟨i, hi, e⟩ => ⟨i, hi, by simpa [hi] using e⟩⟩
    rw [this]; exact h
  · exact Ev.step (f := fun _ => some false) (fun k => by simp only [posthornref21_has.l0]; rw [if_neg (by omega)]) (Ev.now _)
  · intro i hi hp
    exact Ev.step (f := fun _ => some true) (fun k => by simp only [posthornref21_has.l0]; rw [if_pos (by omega), if_pos (by omega), rd_nat, if_pos hp]) (Ev.now _)
  · intro i hi hp r hr
    exact Ev.step (fun k => by simp only [posthornref21_has.l0]; rw [if_pos (by omega), if_pos (by omega), rd_nat, if_neg hp, wrap64_in (by omega) (by omega)]) hr
theorem ref_on_ev (a0 a1 a2 a3 : Int) (l4 l5 : List Int) (l : List S59) (wd : Int) (hl : l.length ≤ 1000000000) : Ev (fun k => posthornref21_on.f k a0 a1 a2 a3 l4 l5 (l.map to60) wd) (l.any fun x => x.f0 == wd) := by
  refine Exists.elim (ev_exists (g := fun i k => posthornref21_on.l0 k wd i a0 a1 a2 a3 l4 l5 (l.map to60)) (n := l.length) (P := fun i => (l.getD i z59).f0 = wd) ?_ ?_ ?_) (fun b hbb => ?_)
  rotate_left 3
  · obtain ⟨h, hb⟩ := hbb
    have : (l.any fun x => x.f0 == wd) = b := by
      rw [Bool.eq_iff_iff, hb, List.any_eq_true]
      exact ⟨fun ⟨x, hx, e⟩ => by obtain ⟨i, hi, rfl⟩ := List.mem_iff_getElem.mp hx; exact ⟨i, hi, by simpa [hi] using e⟩, fun ⟨i, hi, e⟩ => ⟨l[i], List.getElem_mem hi, by simpa [hi] using e⟩⟩
    rw [this]; exact h
  · exact Ev.step (f := fun _ => some false) (fun k => by simp only [posthornref21_on.l0]; rw [if_neg (by simp)]) (Ev.now _)
  · intro i hi hp
    exact Ev.step (f := fun _ => some true) (fun k => by simp only [posthornref21_on.l0]; rw [if_pos (by simp; omega), if_pos (by omega), rd60_f0, if_pos hp]) (Ev.now _)
  · intro i hi hp r hr
    exact Ev.step (fun k => by simp only [posthornref21_on.l0]; rw [if_pos (by simp; omega), if_pos (by omega), rd60_f0, if_neg hp, wrap64_in (by omega) (by omega)]) hr
theorem ref_nth_ev (d n o : Int) (hd0 : 1 ≤ d) (hd1 : d ≤ n) (hn : n ≤ 31) (ho0 : -5 ≤ o) (ho1 : o ≤ 5) : Ev (fun k => posthornref21_nth.f k d n o) (o == 0 || o == (d + 6) / 7 || o == -((n - d) / 7 + 1)) := by
  have L0 : ∀ (t : Nat) (c x : Int), (x + 6) / 7 = t → -6 ≤ x → x ≤ 31 → 0 ≤ c → c + t ≤ 100 → Ev (fun k => posthornref21_nth.l0 k o c x) (c + (x + 6) / 7 == o) := by
    intro t
    induction t with
    | zero =>
      intro c x ht h1 h2 h3 h4
      refine Ev.succ ?_
      simp only [posthornref21_nth.l0]
      refine Ev.neg (by omega) ?_
      rw [show c + (x + 6) / 7 = c by omega]; exact Ev.now _
    | succ t ih =>
      intro c x ht h1 h2 h3 h4
      refine Ev.succ ?_
      simp only [posthornref21_nth.l0]
      refine Ev.pos (by omega) ?_
      rw [wrap64_in (by omega) (by omega), wrap64_in (by omega) (by omega)]
      have := ih (c + 1) (x - 7) (by omega) (by omega) (by omega) (by omega) (by omega)
      rwa [show c + 1 + (x - 7 + 6) / 7 = c + (x + 6) / 7 by omega] at this
  have L1 : ∀ (t : Nat) (c x : Int), (n - x + 7) / 7 = t → x ≤ n + 7 → 1 ≤ x → 0 ≤ c → c + t ≤ 100 → Ev (fun k => posthornref21_nth.l1 k n o c x) (c + (n - x + 7) / 7 == -o) := by
    intro t
    induction t with
    | zero =>
      intro c x ht h1 h2 h3 h4
      refine Ev.succ ?_
      simp only [posthornref21_nth.l1]
      refine Ev.neg (by omega) ?_
      rw [wrap64_in (by omega) (by omega), show c + (n - x + 7) / 7 = c by omega]; exact Ev.now _
    | succ t ih =>
      intro c x ht h1 h2 h3 h4
      refine Ev.succ ?_
      simp only [posthornref21_nth.l1]
      refine Ev.pos (by omega) ?_
      rw [wrap64_in (by omega) (by omega), wrap64_in (by omega) (by omega)]
      have := ih (c + 1) (x + 7) (by omega) (by omega) (by omega) (by omega) (by omega)
      rwa [show c + 1 + (n - (x + 7) + 7) / 7 = c + (n - x + 7) / 7 by omega] at this
  unfold posthornref21_nth.f
  refine Ev.ite (fun e => by subst e; exact Ev.now _) (fun e => Ev.ite (fun g => ?_) (fun g => ?_))
  · have h := L0 ((d + 6) / 7).toNat 0 d (by omega) (by omega) (by omega) (by omega) (by omega)
    have : (o == 0 || o == (d + 6) / 7 || o == -((n - d) / 7 + 1)) = (0 + (d + 6) / 7 == o) := by
      rw [Bool.eq_iff_iff]; simp only [Bool.or_eq_true, beq_iff_eq]; omega
    rw [this]; exact h
  · have h := L1 ((n - d + 7) / 7).toNat 0 d (by omega) (by omega) (by omega) (by omega) (by omega)
    have : (o == 0 || o == (d + 6) / 7 || o == -((n - d) / 7 + 1)) = (0 + (n - d + 7) / 7 == -o) := by
      rw [Bool.eq_iff_iff]; simp only [Bool.or_eq_true, beq_iff_eq]; omega
    rw [this]; exact h
theorem ref_may_ev (a0 a1 a2 a3 : Int) (l4 l5 : List Int) (l : List S59) (y m d wd first : Int) (hl5 : l5.length ≤ 1000000000) (hl : l.length ≤ 1000000000) (hy : 0 ≤ y) (hd0 : 1 ≤ d) (hd1 : d ≤ Cal.mlen y m)
    (hw : ∀ x ∈ l, -5 ≤ x.f1 ∧ x.f1 ≤ 5) : Ev (fun k => posthornref21_month.f k a0 a1 a2 a3 l4 l5 (l.map to60) y m d wd first) (mayS l5 l (Cal.mlen y m) d wd first) := by
  have mb := Cal.mlen_bd y m
  generalize hn : Cal.mlen y m = n at *
  have hloop : Ev (fun k => posthornref21_month.l0 k d wd n 0 a0 a1 a2 a3 l4 l5 (l.map to60)) (l.isEmpty || l.any (fitS wd ((d + 6) / 7) (-((n - d) / 7 + 1)))) := by
    by_cases he : l = []
    · subst he
      exact Ev.step (f := fun _ => some true) (fun k => by simp only [posthornref21_month.l0]; rw [if_neg (by simp)]; rfl) (Ev.now _)
    · have hl0 : 0 < l.length := List.length_pos_iff.mpr he
      have hnth : ∀ i : Nat, i < l.length → Ev (fun k => posthornref21_nth.f k d n (l.getD i z59).f1) ((l.getD i z59).f1 == 0 || (l.getD i z59).f1 == (d + 6) / 7 || (l.getD i z59).f1 == -((n - d) / 7 + 1)) := by
        intro i hi
        have hm : l.getD i z59 ∈ l := by simp [hi]
        exact ref_nth_ev d n _ hd0 hd1 mb.2 (hw _ hm).1 (hw _ hm).2
      refine Exists.elim (ev_exists (g := fun i k => posthornref21_month.l0 k d wd n i a0 a1 a2 a3 l4 l5 (l.map to60)) (n := l.length) (P := fun i => fitS wd ((d + 6) / 7) (-((n - d) / 7 + 1)) (l.getD i z59) = true) ?_ ?_ ?_) (fun b hbb => ?_)
      rotate_left 3
      · obtain ⟨h, hb⟩ := hbb
        have : (l.isEmpty || l.any (fitS wd ((d + 6) / 7) (-((n - d) / 7 + 1)))) = b := by
          rw [show l.isEmpty = false from by cases l with | nil => exact absurd rfl he | cons a b => rfl, Bool.false_or, Bool.eq_iff_iff, hb, List.any_eq_true]
          exact ⟨fun ⟨x, hx, e⟩ => by obtain ⟨i, hi, rfl⟩ := List.mem_iff_getElem.mp hx; exact ⟨i, hi, by simpa [hi] using e⟩, fun ⟨i, hi, e⟩ => ⟨l[i], List.getElem_mem hi, by simpa [hi] using e⟩⟩
        rw [this]; exact h
      · exact Ev.step (f := fun _ => some false) (fun k => by simp only [posthornref21_month.l0]; rw [if_neg (by simp)]; simp; omega) (Ev.now _)
      · intro i hi hp
        unfold fitS at hp
        simp only [Bool.and_eq_true, beq_iff_eq] at hp
        refine Ev.succ ?_
        simp only [posthornref21_month.l0, rd60_f0, rd60_f1]
        refine Ev.pos (by simp; omega) (Ev.pos (by omega) (Ev.pos hp.1 ?_))
        have h := hnth i hi
        rw [hp.2] at h
        exact Ev.bind h (Ev.pos rfl (Ev.now _))
      · intro i hi hp r hr
        unfold fitS at hp
        refine Ev.succ ?_
        simp only [posthornref21_month.l0, rd60_f0, rd60_f1]
        refine Ev.pos (by simp; omega) (Ev.pos (by omega) (Ev.ite (fun e => ?_) (fun e => ?_)))
        · have h := hnth i hi
          rw [show ((l.getD i z59).f1 == 0 || (l.getD i z59).f1 == (d + 6) / 7 || (l.getD i z59).f1 == -((n - d) / 7 + 1)) = false from Bool.eq_false_iff.mpr (fun hq => hp (by rw [beq_iff_eq.mpr e, hq]; rfl))] at h
          refine Ev.bind h (Ev.neg (by decide) ?_)
          rw [wrap64_in (by omega) (by omega)]; exact hr
        · rw [wrap64_in (by omega) (by omega)]; exact hr
  have J1 : ∀ b : Bool, Ev (fun k => posthornref21_month.j1 k d wd n b a0 a1 a2 a3 l4 l5 (l.map to60)) (if b = true then false else (l.isEmpty || l.any (fitS wd ((d + 6) / 7) (-((n - d) / 7 + 1))))) := by
    intro b
    refine Ev.succ ?_
    simp only [posthornref21_month.j1]
    cases b with
    | true => exact Ev.pos rfl (Ev.now _)
    | false => exact Ev.neg (by decide) hloop
  have len5 : ((l5.length : Int) > 0) ↔ l5 ≠ [] := by
    cases l5 with
    | nil => simp
    | cons a b => simp
  have J0 : ∀ b : Bool, (b = true ↔ (l5 = [] ∧ l = [])) → Ev (fun k => posthornref21_month.j0 k d wd first n b a0 a1 a2 a3 l4 l5 (l.map to60)) (mayS l5 l n d wd first) := by
    intro b hb
    refine Ev.succ ?_
    simp only [posthornref21_month.j0]
    unfold mayS
    refine Ev.ite (fun h => by rw [if_pos (hb.mp h)]; exact Ev.now _) (fun h => ?_)
    rw [if_neg (fun hc => h (hb.mpr hc))]
    refine Ev.ite (fun h5 => ?_) (fun h5 => ?_)
    · have h5' := len5.mp h5
      refine Ev.bind (ref_has_ev l5 d hl5) (Ev.ite (fun r => ?_) (fun r => ?_))
      · rw [if_neg (fun hc => by rw [r] at hc; exact absurd hc.2.1 (by decide))]
        exact J1 false
      · rw [wrap64_in (x := d - 1) (by omega) (by omega), wrap64_in (x := d - 1 - n) (by omega) (by omega), show d - 1 - n = d - n - 1 by omega]
        refine Ev.bind (ref_has_ev l5 (d - n - 1) hl5) ?_
        have r' : hasI l5 d = false := by simpa using r
        cases hh : hasI l5 (d - n - 1) with
        | true => rw [if_neg (fun hc => absurd hc.2.2 (by decide))]; exact J1 false
        | false => rw [if_pos ⟨h5', r', rfl⟩]; exact J1 true
    · rw [if_neg (fun hc => h5 (len5.mpr hc.1))]
      exact J1 false
  unfold posthornref21_month.f
  have hm := ref_month_ev y m hy
  rw [hn] at hm
  refine Ev.bind hm (Ev.ite (fun e => J0 _ ?_) (fun e => J0 _ ?_))
  · have : l5 = [] := by
      cases l5 with
      | nil => rfl
      | cons a b => simp at e; omega
    rw [beq_iff_eq]
    simp [this]
  · have : l5 ≠ [] := by
      rintro rfl
      exact e rfl
    simp [this]
end Go.Proofs.YtfbmjonhohebiaaGreatDoor
end
