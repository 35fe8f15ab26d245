/- Texts merged: what the law needs, and no more. -/
import Derived.Test.YtfbmjonhohebiaaGreatDoorQel
section
namespace Go.Proofs.YtfbmjonhohebiaaGreatDoor.PRecurExpands
open Go.RowKit Go.Proofs.YtfbmjonhohebiaaGreatDoorW.PrintWords Go.Proofs.YtfbmjonhohebiaaGreatDoorW.PrintLast Go.Proofs.YtfbmjonhohebiaaGreatDoorW.PrintMore
attribute [local go_sem] max2_int min2_int max_two min_two max_three min_three max_four min_four
set_option linter.unusedVariables false
set_option linter.unusedSimpArgs false
def posthornref21_Matches.j0 : Nat → Int → Int → Int → Int → Int → Int → Int → Int → Int → Int → Bool → Int → Int → Int → Int → List Int → List Int → List (S60) → Option (Bool)
  | 0, _, _, _, _, _, _, _, _, _, _, _, _, _, _, _, _, _, _ => none
  | k + 1, x1, x2, x7, x8, x9, x11, x12, x13, x15, x17, x57, x339000, x339001, x339002, x339003, x339004, x339005, x339006 => if x57 = true then (some false) else (if x339000 = 1 then (if x339001 = 0 then (none) else (if (Int.tmod (wrap64 (x2 - x1)) x339001) = 0 then (if (x339006.length : Int) = 0 then (some true) else ((posthornref21_on.f k x339000 x339001 x339002 x339003 x339004 x339005 x339006 x15).bind fun t352 => (some t352))) else (some false))) else (if x339000 = 2 then (if x339001 = 0 then (none) else (if (Int.tmod (wrap64 (Int.tdiv (wrap64 ((wrap64 ((wrap64 (x2 - x15)) - x1)) + x17)) 7)) x339001) = 0 then ((posthornref21_on.f k x339000 x339001 x339002 x339003 x339004 x339005 x339006 x15).bind fun t353 => (if t353 = true then (some true) else (if (x339006.length : Int) = 0 then (some (x15 == x17)) else (some false)))) else (some false))) else (if x339000 = 3 then (if x339001 = 0 then (none) else (if (Int.tmod (wrap64 ((wrap64 ((wrap64 ((wrap64 (12 * x7)) + x8)) - (wrap64 (12 * x11)))) - x12)) x339001) = 0 then ((posthornref21_month.f k x339000 x339001 x339002 x339003 x339004 x339005 x339006 x7 x8 x9 x15 x13).bind fun t354 => (some t354)) else (some false))) else (if x339001 = 0 then (none) else (if (Int.tmod (wrap64 (x7 - x11)) x339001) = 0 then (if (x339004.length : Int) > 0 then ((posthornref21_month.f k x339000 x339001 x339002 x339003 x339004 x339005 x339006 x7 x8 x9 x15 x13).bind fun t355 => (some t355)) else (if x8 = x12 then ((posthornref21_month.f k x339000 x339001 x339002 x339003 x339004 x339005 x339006 x7 x8 x9 x15 x13).bind fun t356 => (some t356)) else (some false))) else (some false))))))
def posthornref21_Matches.f (k : Nat) (a0_0 : Int) (a0_1 : Int) (a0_2 : Int) (a0_3 : Int) (l0_4 : List Int) (l0_5 : List Int) (l0_6 : List (S60)) (a1 : Int) (a2 : Int) : Option (Bool) := if a2 < a1 then (some false) else ((posthornref12_Civil.f k a2).bind fun bt339 => ((posthornref12_Civil.f k a1).bind fun bt343 => ((posthornref20_Weekday.f k a2).bind fun bt347 => ((posthornref20_Weekday.f k a1).bind fun bt349 => (if (l0_4.length : Int) > 0 then ((posthornref21_has.f k l0_4 bt339.2.1).bind fun t351 => (posthornref21_Matches.j0 k a1 a2 bt339.1 bt339.2.1 bt339.2.2.1 bt343.1 bt343.2.1 bt343.2.2.1 bt347.1 bt349.1 (!t351) a0_0 a0_1 a0_2 a0_3 l0_4 l0_5 l0_6)) else (posthornref21_Matches.j0 k a1 a2 bt339.1 bt339.2.1 bt339.2.2.1 bt343.1 bt343.2.1 bt343.2.2.1 bt347.1 bt349.1 false a0_0 a0_1 a0_2 a0_3 l0_4 l0_5 l0_6))))))
theorem posthornref21_Matches.mono_l : ∀ k, (∀ y0 y1 y2 y3 y4 y5 y6 y7 y8 y9 y10 y11 y12 y13 y14 y15 y16 y17, LeO (posthornref21_Matches.j0 k y0 y1 y2 y3 y4 y5 y6 y7 y8 y9 y10 y11 y12 y13 y14 y15 y16 y17) (posthornref21_Matches.j0 (k + 1) y0 y1 y2 y3 y4 y5 y6 y7 y8 y9 y10 y11 y12 y13 y14 y15 y16 y17))
  | 0 => fun _ _ _ _ _ _ _ _ _ _ _ _ _ _ _ _ _ _ r h => by simp [posthornref21_Matches.j0] at h
  | k + 1 => by
    have ih0 := posthornref21_Matches.mono_l k
    · intro y0 y1 y2 y3 y4 y5 y6 y7 y8 y9 y10 y11 y12 y13 y14 y15 y16 y17
      unfold posthornref21_Matches.j0
      repeat' first
      | (with_reducible exact ih0 _ _ _ _ _ _ _ _ _ _ _ _ _ _ _ _ _ _)
      | (with_reducible exact posthornref12_Civil.mono _ _)
      | (with_reducible exact posthornref20_Weekday.mono _ _)
      | (with_reducible exact posthornref21_has.mono _ _ _)
      | (with_reducible exact posthornref21_month.mono _ _ _ _ _ _ _ _ _ _ _ _ _)
      | (with_reducible exact posthornref21_on.mono _ _ _ _ _ _ _ _ _)
      | (with_reducible exact LeO.refl _)
      | (with_reducible exact LeO.none _)
      | (with_reducible refine LeO.ite ?_ ?_)
      | (with_reducible refine LeO.bind ?_ (fun _ => ?_))
      | exact ih0 _ _ _ _ _ _ _ _ _ _ _ _ _ _ _ _ _ _
      | exact posthornref12_Civil.mono _ _
      | exact posthornref20_Weekday.mono _ _
      | exact posthornref21_has.mono _ _ _
      | exact posthornref21_month.mono _ _ _ _ _ _ _ _ _ _ _ _ _
      | exact posthornref21_on.mono _ _ _ _ _ _ _ _ _
      | exact LeO.none _
      | refine LeO.ite ?_ ?_
      | refine LeO.bind ?_ (fun _ => ?_)
theorem posthornref21_Matches.mono : ∀ a0 a1 a2 a3 a4 a5 a6 a7 a8 k, LeO (posthornref21_Matches.f k a0 a1 a2 a3 a4 a5 a6 a7 a8) (posthornref21_Matches.f (k + 1) a0 a1 a2 a3 a4 a5 a6 a7 a8) := by
  intro a0 a1 a2 a3 a4 a5 a6 a7 a8 k
  have ih0 := posthornref21_Matches.mono_l k
  unfold posthornref21_Matches.f
  repeat' first
      | (with_reducible exact ih0 _ _ _ _ _ _ _ _ _ _ _ _ _ _ _ _ _ _)
      | (with_reducible exact posthornref12_Civil.mono _ _)
      | (with_reducible exact posthornref20_Weekday.mono _ _)
      | (with_reducible exact posthornref21_has.mono _ _ _)
      | (with_reducible exact posthornref21_month.mono _ _ _ _ _ _ _ _ _ _ _ _ _)
      | (with_reducible exact posthornref21_on.mono _ _ _ _ _ _ _ _ _)
      | (with_reducible exact LeO.refl _)
      | (with_reducible exact LeO.none _)
      | (with_reducible refine LeO.ite ?_ ?_)
      | (with_reducible refine LeO.bind ?_ (fun _ => ?_))
      | exact ih0 _ _ _ _ _ _ _ _ _ _ _ _ _ _ _ _ _ _
      | exact posthornref12_Civil.mono _ _
      | exact posthornref20_Weekday.mono _ _
      | exact posthornref21_has.mono _ _ _
      | exact posthornref21_month.mono _ _ _ _ _ _ _ _ _ _ _ _ _
      | exact posthornref21_on.mono _ _ _ _ _ _ _ _ _
      | exact LeO.none _
      | refine LeO.ite ?_ ?_
      | refine LeO.bind ?_ (fun _ => ?_)
set_option maxHeartbeats 8000000 in
set_option maxRecDepth 100000 in
theorem posthornref21_Matches.calls (k : Nat) (a0_0 : Int) (a0_1 : Int) (a0_2 : Int) (a0_3 : Int) (A0_4 : Option Addr) (c0_4 : Nat) (l0_4 : List Int) (A0_5 : Option Addr) (c0_5 : Nat) (l0_5 : List Int) (A0_6 : Option Addr) (c0_6 : Nat) (l0_6 : List (S60)) (a1 : Int) (a2 : Int) (r : Bool) (w : World) (hr0_4 : Kd.C (Kd.int .i64) w A0_4 l0_4.length l0_4) (hc0_4 : l0_4.length ≤ c0_4) (hr0_5 : Kd.C (Kd.int .i64) w A0_5 l0_5.length l0_5) (hc0_5 : l0_5.length ≤ c0_5) (hr0_6 : Kd.C k60 w A0_6 l0_6.length l0_6) (hc0_6 : l0_6.length ≤ c0_6) (h : posthornref21_Matches.f k a0_0 a0_1 a0_2 a0_3 l0_4 l0_5 l0_6 a1 a2 = some r) :
    Calls Tryz.prog 28 #[.agg #[.int .i64 a0_0, .int .i64 a0_1, .int .i64 a0_2, .int .i64 a0_3, .slice A0_4 l0_4.length c0_4, .slice A0_5 l0_5.length c0_5, .slice A0_6 l0_6.length c0_6], .int .i64 a1, .int .i64 a2] w fun e w' => e = .returned (.bool r) ∧ Below w.heap.size w w' := by
  have hu34 := Tryz.underlying34
  have HR0_4 := Aside0.mk hr0_4
  have HC0_4 := Aside0.mk hc0_4
  clear hr0_4 hc0_4
  have HR0_5 := Aside0.mk hr0_5
  have HC0_5 := Aside0.mk hc0_5
  clear hr0_5 hc0_5
  have HR0_6 := Aside0.mk hr0_6
  have HC0_6 := Aside0.mk hc0_6
  clear hr0_6 hc0_6
  have HB := Aside0.mk (Below.refl w.heap.size w)
  have H : (if a2 < a1 then (some false) else ((posthornref12_Civil.f k a2).bind fun bt339 => ((posthornref12_Civil.f k a1).bind fun bt343 => ((posthornref20_Weekday.f k a2).bind fun bt347 => ((posthornref20_Weekday.f k a1).bind fun bt349 => (if (l0_4.length : Int) > 0 then ((posthornref21_has.f k l0_4 bt339.2.1).bind fun t351 => (posthornref21_Matches.j0 k a1 a2 bt339.1 bt339.2.1 bt339.2.2.1 bt343.1 bt343.2.1 bt343.2.2.1 bt347.1 bt349.1 (!t351) a0_0 a0_1 a0_2 a0_3 l0_4 l0_5 l0_6)) else (posthornref21_Matches.j0 k a1 a2 bt339.1 bt339.2.1 bt339.2.2.1 bt343.1 bt343.2.1 bt343.2.2.1 bt347.1 bt349.1 false a0_0 a0_1 a0_2 a0_3 l0_4 l0_5 l0_6))))))) = some r := h
  clear h
  by_cases c4 : a2 < a1
  · rw [if_pos c4] at H
    have c4b0 : decide (a2 < a1) = true := decide_eq_true c4
    clear c4
    obtain rfl := Option.some.inj H
    go_enter Tryz.func28, Tryz.ntmps28
    go_wp2_with (first | ((with_reducible refine gate_dst (N := 3) rfl ?_); (try (refine gate_guard (by rfl) ?_; dsimp only)); refine box_event ?hg (N := 3) ?hd (cs := #[.int .i64 a0_0, .int .i64 a0_1, .int .i64 a0_2, .int .i64 a0_3, .slice A0_4 l0_4.length c0_4, .slice A0_5 l0_5.length c0_5, .slice A0_6 l0_6.length c0_6]) (t := 34) ?hr ?_; (case hd => rfl); (case hg => rfl); (case hr => first | (go_simp; done) | (go_simp; rfl)); intro gb338 hg w5 hbox hb; have n0_ := Aside0.mk (below_step (by repeat (first | (with_reducible first | exact HB.out | apply below_alloc | apply pw_below_drewN | apply below_drew1) | exact HB.out)) hb); have n1_ := Aside0.mk (hbox); have n2_ := Aside0.mk ((by rw [hg]; exact (below_size (by repeat (first | (with_reducible first | exact HB.out | apply below_alloc | apply pw_below_drewN | apply below_drew1) | exact HB.out))) : w.heap.size ≤ gb338)); have n3_ := Aside0.mk ((by rw [hg]; exact (below_size (by repeat (first | (with_reducible first | exact HB.out | apply below_alloc | apply pw_below_drewN | apply below_drew1) | exact HB.out))) : w.heap.size ≤ gb338)); clear HB; have HB := n0_; have BK338 := n1_; have GW338 := n2_; have GE338 := n3_; clear n0_ n1_ n2_ n3_; clear hb hbox hg))
    go_ret
    exact ⟨by first | rfl | (simp [errW_none, errW_some] <;> rfl) | (simp [*, errW_none, errW_some] <;> rfl), by repeat (first | (with_reducible first | exact HB.out | apply below_alloc | apply pw_below_drewN | apply below_drew1 | refine below_set ?_ GE338.out) | exact HB.out)⟩
  · rw [if_neg c4] at H
    have c4b0 : decide (a2 < a1) = false := decide_eq_false c4
    clear c4
    replace H := Option.bind_eq_some_iff.mp H
    obtain ⟨⟨t339, t340, t341, t342⟩, A60, H⟩ := H
    replace H : ((posthornref12_Civil.f k a1).bind fun bt343 => ((posthornref20_Weekday.f k a2).bind fun bt347 => ((posthornref20_Weekday.f k a1).bind fun bt349 => (if (l0_4.length : Int) > 0 then ((posthornref21_has.f k l0_4 t340).bind fun t351 => (posthornref21_Matches.j0 k a1 a2 t339 t340 t341 bt343.1 bt343.2.1 bt343.2.2.1 bt347.1 bt349.1 (!t351) a0_0 a0_1 a0_2 a0_3 l0_4 l0_5 l0_6)) else (posthornref21_Matches.j0 k a1 a2 t339 t340 t341 bt343.1 bt343.2.1 bt343.2.2.1 bt347.1 bt349.1 false a0_0 a0_1 a0_2 a0_3 l0_4 l0_5 l0_6))))) = some r := H
    have A6 := Aside0.mk A60
    clear A60
    replace H := Option.bind_eq_some_iff.mp H
    obtain ⟨⟨t343, t344, t345, t346⟩, A70, H⟩ := H
    replace H : ((posthornref20_Weekday.f k a2).bind fun bt347 => ((posthornref20_Weekday.f k a1).bind fun bt349 => (if (l0_4.length : Int) > 0 then ((posthornref21_has.f k l0_4 t340).bind fun t351 => (posthornref21_Matches.j0 k a1 a2 t339 t340 t341 t343 t344 t345 bt347.1 bt349.1 (!t351) a0_0 a0_1 a0_2 a0_3 l0_4 l0_5 l0_6)) else (posthornref21_Matches.j0 k a1 a2 t339 t340 t341 t343 t344 t345 bt347.1 bt349.1 false a0_0 a0_1 a0_2 a0_3 l0_4 l0_5 l0_6)))) = some r := H
    have A7 := Aside0.mk A70
    clear A70
    replace H := Option.bind_eq_some_iff.mp H
    obtain ⟨⟨t347, t348⟩, A80, H⟩ := H
    replace H : ((posthornref20_Weekday.f k a1).bind fun bt349 => (if (l0_4.length : Int) > 0 then ((posthornref21_has.f k l0_4 t340).bind fun t351 => (posthornref21_Matches.j0 k a1 a2 t339 t340 t341 t343 t344 t345 t347 bt349.1 (!t351) a0_0 a0_1 a0_2 a0_3 l0_4 l0_5 l0_6)) else (posthornref21_Matches.j0 k a1 a2 t339 t340 t341 t343 t344 t345 t347 bt349.1 false a0_0 a0_1 a0_2 a0_3 l0_4 l0_5 l0_6))) = some r := H
    have A8 := Aside0.mk A80
    clear A80
    replace H := Option.bind_eq_some_iff.mp H
    obtain ⟨⟨t349, t350⟩, A90, H⟩ := H
    replace H : (if (l0_4.length : Int) > 0 then ((posthornref21_has.f k l0_4 t340).bind fun t351 => (posthornref21_Matches.j0 k a1 a2 t339 t340 t341 t343 t344 t345 t347 t349 (!t351) a0_0 a0_1 a0_2 a0_3 l0_4 l0_5 l0_6)) else (posthornref21_Matches.j0 k a1 a2 t339 t340 t341 t343 t344 t345 t347 t349 false a0_0 a0_1 a0_2 a0_3 l0_4 l0_5 l0_6)) = some r := H
    have A9 := Aside0.mk A90
    clear A90
    have HC10 := Aside0.mk H
    clear H
    go_enter Tryz.func28, Tryz.ntmps28
    go_upto_region 7 with (first | ((with_reducible refine gate_dst (N := 3) rfl ?_); (try (refine gate_guard (by rfl) ?_; dsimp only)); refine box_event ?hg (N := 3) ?hd (cs := #[.int .i64 a0_0, .int .i64 a0_1, .int .i64 a0_2, .int .i64 a0_3, .slice A0_4 l0_4.length c0_4, .slice A0_5 l0_5.length c0_5, .slice A0_6 l0_6.length c0_6]) (t := 34) ?hr ?_; (case hd => rfl); (case hg => rfl); (case hr => first | (go_simp; done) | (go_simp; rfl)); intro gb338 hg w11 hbox hb; have n0_ := Aside0.mk (below_step (by repeat (first | (with_reducible first | exact HB.out | apply below_alloc | apply pw_below_drewN | apply below_drew1) | exact HB.out)) hb); have n1_ := Aside0.mk (hbox); have n2_ := Aside0.mk ((by rw [hg]; exact (below_size (by repeat (first | (with_reducible first | exact HB.out | apply below_alloc | apply pw_below_drewN | apply below_drew1) | exact HB.out))) : w.heap.size ≤ gb338)); have n3_ := Aside0.mk ((by rw [hg]; exact (below_size (by repeat (first | (with_reducible first | exact HB.out | apply below_alloc | apply pw_below_drewN | apply below_drew1) | exact HB.out))) : w.heap.size ≤ gb338)); clear HB; have HB := n0_; have BK338 := n1_; have GW338 := n2_; have GE338 := n3_; clear n0_ n1_ n2_ n3_; clear hb hbox hg) | ((with_reducible refine gate_callee (f := 60) rfl ?_); refine goesL_ (some 25) rfl rfl Tryz.func60 (by kernel_rfl) rfl #[.int .i64 a2] rfl (by (try simp only [List.map_toArray, List.map_cons, List.map_nil]); first | done | rfl | (simp only [List.length_drop, List.length_take]; rfl)) ?_; (with_reducible refine (posthornref12_Civil.calls k a2 t339 t340 t341 t342 _ A6.out).mono ?_); rintro e w' ⟨rfl, ⟨nd, rfl⟩⟩; refine ⟨_, rfl, ?_⟩) | ((with_reducible refine gate_callee (f := 60) rfl ?_); refine goesL_ (some 32) rfl rfl Tryz.func60 (by kernel_rfl) rfl #[.int .i64 a1] rfl (by (try simp only [List.map_toArray, List.map_cons, List.map_nil]); first | done | rfl | (simp only [List.length_drop, List.length_take]; rfl)) ?_; (with_reducible refine (posthornref12_Civil.calls k a1 t343 t344 t345 t346 _ A7.out).mono ?_); rintro e w' ⟨rfl, ⟨nd, rfl⟩⟩; refine ⟨_, rfl, ?_⟩) | ((with_reducible refine gate_callee (f := 61) rfl ?_); refine goesL_ (some 39) rfl rfl Tryz.func61 (by kernel_rfl) rfl #[.int .i64 a2] rfl (by (try simp only [List.map_toArray, List.map_cons, List.map_nil]); first | done | rfl | (simp only [List.length_drop, List.length_take]; rfl)) ?_; (with_reducible refine (posthornref20_Weekday.calls k a2 t347 t348 _ A8.out).mono ?_); rintro e w' ⟨rfl, ⟨nd, rfl⟩⟩; refine ⟨_, rfl, ?_⟩) | ((with_reducible refine gate_callee (f := 61) rfl ?_); refine goesL_ (some 44) rfl rfl Tryz.func61 (by kernel_rfl) rfl #[.int .i64 a1] rfl (by (try simp only [List.map_toArray, List.map_cons, List.map_nil]); first | done | rfl | (simp only [List.length_drop, List.length_take]; rfl)) ?_; (with_reducible refine (posthornref20_Weekday.calls k a1 t349 t350 _ A9.out).mono ?_); rintro e w' ⟨rfl, ⟨nd, rfl⟩⟩; refine ⟨_, rfl, ?_⟩))
    (try simp only [Act.put, List.setIfInBounds_toArray, List.set_cons_zero, List.set_cons_succ])
    go_cut [57] (fun v57 wc => ∃ (kq : Nat) (x57_9 : Bool), v57 = .bool x57_9 ∧ Aside0 (posthornref21_Matches.j0 kq a1 a2 t339 t340 t341 t343 t344 t345 t347 t349 x57_9 a0_0 a0_1 a0_2 a0_3 l0_4 l0_5 l0_6 = some r) ∧ Aside0 (kq ≤ k) ∧ Aside0 (wc.heap[gb338]? = some (.cells #[.int .i64 a0_0, .int .i64 a0_1, .int .i64 a0_2, .int .i64 a0_3, (.slice A0_4 l0_4.length c0_4), (.slice A0_5 l0_5.length c0_5), (.slice A0_6 l0_6.length c0_6)] 34 (0, 0))) ∧ Aside0 (Below w.heap.size w wc))
    case first =>
      have H := HC10.out
      clear HC10
      by_cases c12 : (l0_4.length : Int) > 0
      · rw [if_pos c12] at H
        have c12b0 : decide (0 < (l0_4.length : Int)) = true := decide_eq_true c12
        have c12b1 : decide (0 < l0_4.length) = true := decide_eq_true (by omega)
        clear c12
        (first | rw [c12b0] | (simp only [i64_w, i32_w]; rw [c12b0]) | skip)
        replace H := Option.bind_eq_some_iff.mp H
        obtain ⟨t351, A130, H⟩ := H
        replace H : (posthornref21_Matches.j0 k a1 a2 t339 t340 t341 t343 t344 t345 t347 t349 (!t351) a0_0 a0_1 a0_2 a0_3 l0_4 l0_5 l0_6) = some r := H
        have A13 := Aside0.mk A130
        clear A130
        have H' := Aside0.mk H
        clear H
        have hcz14_0 : w11.cell? ⟨gb338, 0, none⟩ = some (.int .i64 a0_0) := (blk_cell BK338.out 0).trans rfl
        have hcz14_1 : w11.cell? ⟨gb338, 1, none⟩ = some (.int .i64 a0_1) := (blk_cell BK338.out 1).trans rfl
        have hcz14_2 : w11.cell? ⟨gb338, 2, none⟩ = some (.int .i64 a0_2) := (blk_cell BK338.out 2).trans rfl
        have hcz14_3 : w11.cell? ⟨gb338, 3, none⟩ = some (.int .i64 a0_3) := (blk_cell BK338.out 3).trans rfl
        have hcz14_4 : w11.cell? ⟨gb338, 4, none⟩ = some (.slice A0_4 l0_4.length c0_4) := (blk_cell BK338.out 4).trans rfl
        have hcz14_5 : w11.cell? ⟨gb338, 5, none⟩ = some (.slice A0_5 l0_5.length c0_5) := (blk_cell BK338.out 5).trans rfl
        have hcz14_6 : w11.cell? ⟨gb338, 6, none⟩ = some (.slice A0_6 l0_6.length c0_6) := (blk_cell BK338.out 6).trans rfl
        have hfz14_0 := blk_frozen BK338.out 0
        have hfz14_1 := blk_frozen BK338.out 1
        have hfz14_2 := blk_frozen BK338.out 2
        have hfz14_3 := blk_frozen BK338.out 3
        have hfz14_4 := blk_frozen BK338.out 4
        have hfz14_5 := blk_frozen BK338.out 5
        have hfz14_6 := blk_frozen BK338.out 6
        go_wp2_with (first | (go_at_call 62; (with_reducible refine (posthornref21_has.calls k _ _ l0_4 t340 t351 _ ?side1 ?side2 A13.out).mono ?_); (case side1 => repeat (first | exact (Kd.C_below HR0_4.out HB.out) | (with_reducible refine Kd.C_alloc ?_ _) | (with_reducible refine Kd.C_drewN ?_ _) | (with_reducible refine Kd.C_drew ?_))); (case side2 => exact HC0_4.out); rintro e w' ⟨rfl, ⟨nd, rfl⟩⟩))
        go_meet
        case rel => exact ⟨_, (!t351), (by first | rfl | (simp; done) | (simp [*]; done)), H', ⟨by first | omega | exact Nat.le_refl _⟩, ⟨by (with_reducible repeat (first | refine blk_drewN ?_ _ | refine blk_drew ?_ | refine blk_alloc ?_ _)); exact BK338.out⟩, ⟨by repeat (first | (with_reducible first | exact HB.out | apply below_alloc | apply pw_below_drewN | apply below_drew1 | refine below_set ?_ GE338.out) | exact HB.out)⟩⟩
      · rw [if_neg c12] at H
        have c12b0 : decide (0 < (l0_4.length : Int)) = false := decide_eq_false c12
        have c12b1 : decide (0 < l0_4.length) = false := decide_eq_false (by omega)
        clear c12
        (first | rw [c12b0] | (simp only [i64_w, i32_w]; rw [c12b0]) | skip)
        have H' := Aside0.mk H
        clear H
        have hcz15_0 : w11.cell? ⟨gb338, 0, none⟩ = some (.int .i64 a0_0) := (blk_cell BK338.out 0).trans rfl
        have hcz15_1 : w11.cell? ⟨gb338, 1, none⟩ = some (.int .i64 a0_1) := (blk_cell BK338.out 1).trans rfl
        have hcz15_2 : w11.cell? ⟨gb338, 2, none⟩ = some (.int .i64 a0_2) := (blk_cell BK338.out 2).trans rfl
        have hcz15_3 : w11.cell? ⟨gb338, 3, none⟩ = some (.int .i64 a0_3) := (blk_cell BK338.out 3).trans rfl
        have hcz15_4 : w11.cell? ⟨gb338, 4, none⟩ = some (.slice A0_4 l0_4.length c0_4) := (blk_cell BK338.out 4).trans rfl
        have hcz15_5 : w11.cell? ⟨gb338, 5, none⟩ = some (.slice A0_5 l0_5.length c0_5) := (blk_cell BK338.out 5).trans rfl
        have hcz15_6 : w11.cell? ⟨gb338, 6, none⟩ = some (.slice A0_6 l0_6.length c0_6) := (blk_cell BK338.out 6).trans rfl
        have hfz15_0 := blk_frozen BK338.out 0
        have hfz15_1 := blk_frozen BK338.out 1
        have hfz15_2 := blk_frozen BK338.out 2
        have hfz15_3 := blk_frozen BK338.out 3
        have hfz15_4 := blk_frozen BK338.out 4
        have hfz15_5 := blk_frozen BK338.out 5
        have hfz15_6 := blk_frozen BK338.out 6
        go_wp2
        go_meet
        case rel => exact ⟨_, (false), (by first | rfl | (simp; done) | (simp [*]; done)), H', ⟨by first | omega | exact Nat.le_refl _⟩, ⟨by (with_reducible repeat (first | refine blk_drewN ?_ _ | refine blk_drew ?_ | refine blk_alloc ?_ _)); exact BK338.out⟩, ⟨by repeat (first | (with_reducible first | exact HB.out | apply below_alloc | apply pw_below_drewN | apply below_drew1 | refine below_set ?_ GE338.out) | exact HB.out)⟩⟩
    case rest =>
      clear HC10
      try clear c1
      try clear c2
      try clear p2
      try clear c4
      try clear c4b0
      try clear c6
      try clear c12
      try clear c12b0
      try clear c12b1
      try clear hcz14_0
      try clear hcz14_1
      try clear hcz14_2
      try clear hcz14_3
      try clear hcz14_4
      try clear hcz14_5
      try clear hcz14_6
      try clear hcz15_0
      try clear hcz15_1
      try clear hcz15_2
      try clear hcz15_3
      try clear hcz15_4
      try clear hcz15_5
      try clear hcz15_6
      try clear hfz14_0
      try clear hfz14_1
      try clear hfz14_2
      try clear hfz14_3
      try clear hfz14_4
      try clear hfz14_5
      try clear hfz14_6
      try clear hfz15_0
      try clear hfz15_1
      try clear hfz15_2
      try clear hfz15_3
      try clear hfz15_4
      try clear hfz15_5
      try clear hfz15_6
      obtain ⟨kq, x57_9, rfl, HA, HJ9, BK338, HB⟩ := hcut
      cases kq with
      | zero => exact absurd HA.out (by simp [posthornref21_Matches.j0])
      | succ kj9 =>
        have H := HA.out
        clear HA
        simp only [posthornref21_Matches.j0] at H
        by_cases c16 : x57_9 = true
        · subst c16
          have H1 : (some false) = some r := by rw [if_pos rfl] at H; exact H
          clear H
          have H := H1
          clear H1
          obtain rfl := Option.some.inj H
          go_wp2
          go_ret
          exact ⟨by first | rfl | (simp [errW_none, errW_some] <;> rfl) | (simp [*, errW_none, errW_some] <;> rfl), by repeat (first | (with_reducible first | exact HB.out | apply below_alloc | apply pw_below_drewN | apply below_drew1 | refine below_set ?_ GE338.out) | exact HB.out)⟩
        · replace c16 := Bool.eq_false_iff.mpr c16
          subst c16
          have H1 : (if a0_0 = 1 then (if a0_1 = 0 then (none) else (if (Int.tmod (wrap64 (a2 - a1)) a0_1) = 0 then (if (l0_6.length : Int) = 0 then (some true) else ((posthornref21_on.f kj9 a0_0 a0_1 a0_2 a0_3 l0_4 l0_5 l0_6 t347).bind fun t352 => (some t352))) else (some false))) else (if a0_0 = 2 then (if a0_1 = 0 then (none) else (if (Int.tmod (wrap64 (Int.tdiv (wrap64 ((wrap64 ((wrap64 (a2 - t347)) - a1)) + t349)) 7)) a0_1) = 0 then ((posthornref21_on.f kj9 a0_0 a0_1 a0_2 a0_3 l0_4 l0_5 l0_6 t347).bind fun t353 => (if t353 = true then (some true) else (if (l0_6.length : Int) = 0 then (some (t347 == t349)) else (some false)))) else (some false))) else (if a0_0 = 3 then (if a0_1 = 0 then (none) else (if (Int.tmod (wrap64 ((wrap64 ((wrap64 ((wrap64 (12 * t339)) + t340)) - (wrap64 (12 * t343)))) - t344)) a0_1) = 0 then ((posthornref21_month.f kj9 a0_0 a0_1 a0_2 a0_3 l0_4 l0_5 l0_6 t339 t340 t341 t347 t345).bind fun t354 => (some t354)) else (some false))) else (if a0_1 = 0 then (none) else (if (Int.tmod (wrap64 (t339 - t343)) a0_1) = 0 then (if (l0_4.length : Int) > 0 then ((posthornref21_month.f kj9 a0_0 a0_1 a0_2 a0_3 l0_4 l0_5 l0_6 t339 t340 t341 t347 t345).bind fun t355 => (some t355)) else (if t340 = t344 then ((posthornref21_month.f kj9 a0_0 a0_1 a0_2 a0_3 l0_4 l0_5 l0_6 t339 t340 t341 t347 t345).bind fun t356 => (some t356)) else (some false))) else (some false)))))) = some r := by rw [if_neg (show ¬ (false = true) by decide)] at H; exact H
          clear H
          have H := H1
          clear H1
          by_cases c17 : a0_0 = 1
          · rw [if_pos c17] at H
            have c17b0 : (a0_0 == 1) = true := beq_iff_eq.mpr c17
            have c17b1 : (a0_0 != 1) = false := bne_eq_false_iff_eq.mpr c17
            clear c17
            by_cases c18 : a0_1 = 0
            · rw [if_pos c18] at H
              exact absurd H (by simp)
            · rw [if_neg c18] at H
              have c18b0 : (a0_1 == 0) = false := beq_eq_false_iff_ne.mpr c18
              have c18b1 : (a0_1 != 0) = true := bne_iff_ne.mpr c18
              by_cases c19 : (Int.tmod (wrap64 (a2 - a1)) a0_1) = 0
              · rw [if_pos c19] at H
                have c19b0 : ((Int.tmod (wrap64 (a2 - a1)) a0_1) == 0) = true := beq_iff_eq.mpr c19
                have c19b1 : ((Int.tmod (wrap64 (a2 - a1)) a0_1) != 0) = false := bne_eq_false_iff_eq.mpr c19
                clear c19
                by_cases c20 : (l0_6.length : Int) = 0
                · rw [if_pos c20] at H
                  have c20b0 : ((l0_6.length : Int) == 0) = true := beq_iff_eq.mpr c20
                  have c20b1 : ((l0_6.length : Int) != 0) = false := bne_eq_false_iff_eq.mpr c20
                  clear c20
                  obtain rfl := Option.some.inj H
                  have hcz21_0 : wc.cell? ⟨gb338, 0, none⟩ = some (.int .i64 a0_0) := (blk_cell BK338.out 0).trans rfl
                  have hcz21_1 : wc.cell? ⟨gb338, 1, none⟩ = some (.int .i64 a0_1) := (blk_cell BK338.out 1).trans rfl
                  have hcz21_2 : wc.cell? ⟨gb338, 2, none⟩ = some (.int .i64 a0_2) := (blk_cell BK338.out 2).trans rfl
                  have hcz21_3 : wc.cell? ⟨gb338, 3, none⟩ = some (.int .i64 a0_3) := (blk_cell BK338.out 3).trans rfl
                  have hcz21_4 : wc.cell? ⟨gb338, 4, none⟩ = some (.slice A0_4 l0_4.length c0_4) := (blk_cell BK338.out 4).trans rfl
                  have hcz21_5 : wc.cell? ⟨gb338, 5, none⟩ = some (.slice A0_5 l0_5.length c0_5) := (blk_cell BK338.out 5).trans rfl
                  have hcz21_6 : wc.cell? ⟨gb338, 6, none⟩ = some (.slice A0_6 l0_6.length c0_6) := (blk_cell BK338.out 6).trans rfl
                  have hfz21_0 := blk_frozen BK338.out 0
                  have hfz21_1 := blk_frozen BK338.out 1
                  have hfz21_2 := blk_frozen BK338.out 2
                  have hfz21_3 := blk_frozen BK338.out 3
                  have hfz21_4 := blk_frozen BK338.out 4
                  have hfz21_5 := blk_frozen BK338.out 5
                  have hfz21_6 := blk_frozen BK338.out 6
                  go_wp2
                  go_ret
                  exact ⟨by first | rfl | (simp [errW_none, errW_some] <;> rfl) | (simp [*, errW_none, errW_some] <;> rfl), by repeat (first | (with_reducible first | exact HB.out | apply below_alloc | apply pw_below_drewN | apply below_drew1 | refine below_set ?_ GE338.out) | exact HB.out)⟩
                · rw [if_neg c20] at H
                  have c20b0 : ((l0_6.length : Int) == 0) = false := beq_eq_false_iff_ne.mpr c20
                  have c20b1 : ((l0_6.length : Int) != 0) = true := bne_iff_ne.mpr c20
                  have c20b2 : ¬ (l0_6 = []) := fun h_ => c20 (by rw [h_]; rfl)
                  replace H := Option.bind_eq_some_iff.mp H
                  obtain ⟨t352, A220, H⟩ := H
                  replace H : (some t352) = some r := H
                  have A22 := Aside0.mk A220
                  clear A220
                  obtain rfl := Option.some.inj H
                  have hcz23_0 : wc.cell? ⟨gb338, 0, none⟩ = some (.int .i64 a0_0) := (blk_cell BK338.out 0).trans rfl
                  have hcz23_1 : wc.cell? ⟨gb338, 1, none⟩ = some (.int .i64 a0_1) := (blk_cell BK338.out 1).trans rfl
                  have hcz23_2 : wc.cell? ⟨gb338, 2, none⟩ = some (.int .i64 a0_2) := (blk_cell BK338.out 2).trans rfl
                  have hcz23_3 : wc.cell? ⟨gb338, 3, none⟩ = some (.int .i64 a0_3) := (blk_cell BK338.out 3).trans rfl
                  have hcz23_4 : wc.cell? ⟨gb338, 4, none⟩ = some (.slice A0_4 l0_4.length c0_4) := (blk_cell BK338.out 4).trans rfl
                  have hcz23_5 : wc.cell? ⟨gb338, 5, none⟩ = some (.slice A0_5 l0_5.length c0_5) := (blk_cell BK338.out 5).trans rfl
                  have hcz23_6 : wc.cell? ⟨gb338, 6, none⟩ = some (.slice A0_6 l0_6.length c0_6) := (blk_cell BK338.out 6).trans rfl
                  have hfz23_0 := blk_frozen BK338.out 0
                  have hfz23_1 := blk_frozen BK338.out 1
                  have hfz23_2 := blk_frozen BK338.out 2
                  have hfz23_3 := blk_frozen BK338.out 3
                  have hfz23_4 := blk_frozen BK338.out 4
                  have hfz23_5 := blk_frozen BK338.out 5
                  have hfz23_6 := blk_frozen BK338.out 6
                  go_wp2_with (first | (go_at_call 63; (with_reducible refine (posthornref21_on.calls kj9 a0_0 a0_1 a0_2 a0_3 _ _ l0_4 _ _ l0_5 _ _ l0_6 t347 t352 _ ?side1 ?side2 ?side3 ?side4 ?side5 ?side6 A22.out).mono ?_); (case side1 => repeat (first | exact (Kd.C_below HR0_4.out HB.out) | (with_reducible refine Kd.C_alloc ?_ _) | (with_reducible refine Kd.C_drewN ?_ _) | (with_reducible refine Kd.C_drew ?_))); (case side2 => exact HC0_4.out); (case side3 => repeat (first | exact (Kd.C_below HR0_5.out HB.out) | (with_reducible refine Kd.C_alloc ?_ _) | (with_reducible refine Kd.C_drewN ?_ _) | (with_reducible refine Kd.C_drew ?_))); (case side4 => exact HC0_5.out); (case side5 => repeat (first | exact (Kd.C_below HR0_6.out HB.out) | (with_reducible refine Kd.C_alloc ?_ _) | (with_reducible refine Kd.C_drewN ?_ _) | (with_reducible refine Kd.C_drew ?_))); (case side6 => exact HC0_6.out); rintro e w24 ⟨rfl, hb⟩; have n0_ := Aside0.mk (blk_below (g := gb338) (o := .cells #[.int .i64 a0_0, .int .i64 a0_1, .int .i64 a0_2, .int .i64 a0_3, .slice A0_4 l0_4.length c0_4, .slice A0_5 l0_5.length c0_5, .slice A0_6 l0_6.length c0_6] 34 (0, 0)) (by (with_reducible repeat (first | refine blk_drewN ?_ _ | refine blk_drew ?_ | refine blk_alloc ?_ _)); exact BK338.out) hb); have n1_ := Aside0.mk (below_step (by repeat (first | (with_reducible first | exact HB.out | apply below_alloc | apply pw_below_drewN | apply below_drew1 | refine below_set ?_ GE338.out) | exact HB.out)) hb); clear BK338; clear HB; have BK338 := n0_; have HB := n1_; clear n0_ n1_; (try clear hb); (try clear hb2); (try clear hk); (try clear hi)))
                  go_ret
                  exact ⟨by first | rfl | (simp [errW_none, errW_some] <;> rfl) | (simp [*, errW_none, errW_some] <;> rfl), by repeat (first | (with_reducible first | exact HB.out | apply below_alloc | apply pw_below_drewN | apply below_drew1 | refine below_set ?_ GE338.out) | exact HB.out)⟩
              · rw [if_neg c19] at H
                have c19b0 : ((Int.tmod (wrap64 (a2 - a1)) a0_1) == 0) = false := beq_eq_false_iff_ne.mpr c19
                have c19b1 : ((Int.tmod (wrap64 (a2 - a1)) a0_1) != 0) = true := bne_iff_ne.mpr c19
                obtain rfl := Option.some.inj H
                have hcz25_0 : wc.cell? ⟨gb338, 0, none⟩ = some (.int .i64 a0_0) := (blk_cell BK338.out 0).trans rfl
                have hcz25_1 : wc.cell? ⟨gb338, 1, none⟩ = some (.int .i64 a0_1) := (blk_cell BK338.out 1).trans rfl
                have hcz25_2 : wc.cell? ⟨gb338, 2, none⟩ = some (.int .i64 a0_2) := (blk_cell BK338.out 2).trans rfl
                have hcz25_3 : wc.cell? ⟨gb338, 3, none⟩ = some (.int .i64 a0_3) := (blk_cell BK338.out 3).trans rfl
                have hcz25_4 : wc.cell? ⟨gb338, 4, none⟩ = some (.slice A0_4 l0_4.length c0_4) := (blk_cell BK338.out 4).trans rfl
                have hcz25_5 : wc.cell? ⟨gb338, 5, none⟩ = some (.slice A0_5 l0_5.length c0_5) := (blk_cell BK338.out 5).trans rfl
                have hcz25_6 : wc.cell? ⟨gb338, 6, none⟩ = some (.slice A0_6 l0_6.length c0_6) := (blk_cell BK338.out 6).trans rfl
                have hfz25_0 := blk_frozen BK338.out 0
                have hfz25_1 := blk_frozen BK338.out 1
                have hfz25_2 := blk_frozen BK338.out 2
                have hfz25_3 := blk_frozen BK338.out 3
                have hfz25_4 := blk_frozen BK338.out 4
                have hfz25_5 := blk_frozen BK338.out 5
                have hfz25_6 := blk_frozen BK338.out 6
                go_wp2
                go_ret
                exact ⟨by first | rfl | (simp [errW_none, errW_some] <;> rfl) | (simp [*, errW_none, errW_some] <;> rfl), by repeat (first | (with_reducible first | exact HB.out | apply below_alloc | apply pw_below_drewN | apply below_drew1 | refine below_set ?_ GE338.out) | exact HB.out)⟩
          · rw [if_neg c17] at H
            have c17b0 : (a0_0 == 1) = false := beq_eq_false_iff_ne.mpr c17
            have c17b1 : (a0_0 != 1) = true := bne_iff_ne.mpr c17
            by_cases c26 : a0_0 = 2
            · rw [if_pos c26] at H
              have c26b0 : (a0_0 == 2) = true := beq_iff_eq.mpr c26
              have c26b1 : (a0_0 != 2) = false := bne_eq_false_iff_eq.mpr c26
              clear c26
              by_cases c27 : a0_1 = 0
              · rw [if_pos c27] at H
                exact absurd H (by simp)
              · rw [if_neg c27] at H
                have c27b0 : (a0_1 == 0) = false := beq_eq_false_iff_ne.mpr c27
                have c27b1 : (a0_1 != 0) = true := bne_iff_ne.mpr c27
                by_cases c28 : (Int.tmod (wrap64 (Int.tdiv (wrap64 ((wrap64 ((wrap64 (a2 - t347)) - a1)) + t349)) 7)) a0_1) = 0
                · rw [if_pos c28] at H
                  have c28b0 : ((Int.tmod (wrap64 (Int.tdiv (wrap64 ((wrap64 ((wrap64 (a2 - t347)) - a1)) + t349)) 7)) a0_1) == 0) = true := beq_iff_eq.mpr c28
                  have c28b1 : ((Int.tmod (wrap64 (Int.tdiv (wrap64 ((wrap64 ((wrap64 (a2 - t347)) - a1)) + t349)) 7)) a0_1) != 0) = false := bne_eq_false_iff_eq.mpr c28
                  clear c28
                  replace H := Option.bind_eq_some_iff.mp H
                  obtain ⟨t353, A290, H⟩ := H
                  replace H : (if t353 = true then (some true) else (if (l0_6.length : Int) = 0 then (some (t347 == t349)) else (some false))) = some r := H
                  have A29 := Aside0.mk A290
                  clear A290
                  by_cases c30 : t353 = true
                  · subst c30
                    have H1 : (some true) = some r := by rw [if_pos rfl] at H; exact H
                    clear H
                    have H := H1
                    clear H1
                    obtain rfl := Option.some.inj H
                    have hcz31_0 : wc.cell? ⟨gb338, 0, none⟩ = some (.int .i64 a0_0) := (blk_cell BK338.out 0).trans rfl
                    have hcz31_1 : wc.cell? ⟨gb338, 1, none⟩ = some (.int .i64 a0_1) := (blk_cell BK338.out 1).trans rfl
                    have hcz31_2 : wc.cell? ⟨gb338, 2, none⟩ = some (.int .i64 a0_2) := (blk_cell BK338.out 2).trans rfl
                    have hcz31_3 : wc.cell? ⟨gb338, 3, none⟩ = some (.int .i64 a0_3) := (blk_cell BK338.out 3).trans rfl
                    have hcz31_4 : wc.cell? ⟨gb338, 4, none⟩ = some (.slice A0_4 l0_4.length c0_4) := (blk_cell BK338.out 4).trans rfl
                    have hcz31_5 : wc.cell? ⟨gb338, 5, none⟩ = some (.slice A0_5 l0_5.length c0_5) := (blk_cell BK338.out 5).trans rfl
                    have hcz31_6 : wc.cell? ⟨gb338, 6, none⟩ = some (.slice A0_6 l0_6.length c0_6) := (blk_cell BK338.out 6).trans rfl
                    have hfz31_0 := blk_frozen BK338.out 0
                    have hfz31_1 := blk_frozen BK338.out 1
                    have hfz31_2 := blk_frozen BK338.out 2
                    have hfz31_3 := blk_frozen BK338.out 3
                    have hfz31_4 := blk_frozen BK338.out 4
                    have hfz31_5 := blk_frozen BK338.out 5
                    have hfz31_6 := blk_frozen BK338.out 6
                    go_wp2_with (first | (go_at_call 63; (with_reducible refine (posthornref21_on.calls kj9 a0_0 a0_1 a0_2 a0_3 _ _ l0_4 _ _ l0_5 _ _ l0_6 t347 true _ ?side1 ?side2 ?side3 ?side4 ?side5 ?side6 A29.out).mono ?_); (case side1 => repeat (first | exact (Kd.C_below HR0_4.out HB.out) | (with_reducible refine Kd.C_alloc ?_ _) | (with_reducible refine Kd.C_drewN ?_ _) | (with_reducible refine Kd.C_drew ?_))); (case side2 => exact HC0_4.out); (case side3 => repeat (first | exact (Kd.C_below HR0_5.out HB.out) | (with_reducible refine Kd.C_alloc ?_ _) | (with_reducible refine Kd.C_drewN ?_ _) | (with_reducible refine Kd.C_drew ?_))); (case side4 => exact HC0_5.out); (case side5 => repeat (first | exact (Kd.C_below HR0_6.out HB.out) | (with_reducible refine Kd.C_alloc ?_ _) | (with_reducible refine Kd.C_drewN ?_ _) | (with_reducible refine Kd.C_drew ?_))); (case side6 => exact HC0_6.out); rintro e w32 ⟨rfl, hb⟩; have n0_ := Aside0.mk (blk_below (g := gb338) (o := .cells #[.int .i64 a0_0, .int .i64 a0_1, .int .i64 a0_2, .int .i64 a0_3, .slice A0_4 l0_4.length c0_4, .slice A0_5 l0_5.length c0_5, .slice A0_6 l0_6.length c0_6] 34 (0, 0)) (by (with_reducible repeat (first | refine blk_drewN ?_ _ | refine blk_drew ?_ | refine blk_alloc ?_ _)); exact BK338.out) hb); have n1_ := Aside0.mk (below_step (by repeat (first | (with_reducible first | exact HB.out | apply below_alloc | apply pw_below_drewN | apply below_drew1 | refine below_set ?_ GE338.out) | exact HB.out)) hb); clear BK338; clear HB; have BK338 := n0_; have HB := n1_; clear n0_ n1_; (try clear hb); (try clear hb2); (try clear hk); (try clear hi)))
                    go_ret
                    exact ⟨by first | rfl | (simp [errW_none, errW_some] <;> rfl) | (simp [*, errW_none, errW_some] <;> rfl), by repeat (first | (with_reducible first | exact HB.out | apply below_alloc | apply pw_below_drewN | apply below_drew1 | refine below_set ?_ GE338.out) | exact HB.out)⟩
                  · replace c30 := Bool.eq_false_iff.mpr c30
                    subst c30
                    have H1 : (if (l0_6.length : Int) = 0 then (some (t347 == t349)) else (some false)) = some r := by rw [if_neg (show ¬ (false = true) by decide)] at H; exact H
                    clear H
                    have H := H1
                    clear H1
                    by_cases c33 : (l0_6.length : Int) = 0
                    · rw [if_pos c33] at H
                      have c33b0 : ((l0_6.length : Int) == 0) = true := beq_iff_eq.mpr c33
                      have c33b1 : ((l0_6.length : Int) != 0) = false := bne_eq_false_iff_eq.mpr c33
                      clear c33
                      obtain rfl := Option.some.inj H
                      have hcz34_0 : wc.cell? ⟨gb338, 0, none⟩ = some (.int .i64 a0_0) := (blk_cell BK338.out 0).trans rfl
                      have hcz34_1 : wc.cell? ⟨gb338, 1, none⟩ = some (.int .i64 a0_1) := (blk_cell BK338.out 1).trans rfl
                      have hcz34_2 : wc.cell? ⟨gb338, 2, none⟩ = some (.int .i64 a0_2) := (blk_cell BK338.out 2).trans rfl
                      have hcz34_3 : wc.cell? ⟨gb338, 3, none⟩ = some (.int .i64 a0_3) := (blk_cell BK338.out 3).trans rfl
                      have hcz34_4 : wc.cell? ⟨gb338, 4, none⟩ = some (.slice A0_4 l0_4.length c0_4) := (blk_cell BK338.out 4).trans rfl
                      have hcz34_5 : wc.cell? ⟨gb338, 5, none⟩ = some (.slice A0_5 l0_5.length c0_5) := (blk_cell BK338.out 5).trans rfl
                      have hcz34_6 : wc.cell? ⟨gb338, 6, none⟩ = some (.slice A0_6 l0_6.length c0_6) := (blk_cell BK338.out 6).trans rfl
                      have hfz34_0 := blk_frozen BK338.out 0
                      have hfz34_1 := blk_frozen BK338.out 1
                      have hfz34_2 := blk_frozen BK338.out 2
                      have hfz34_3 := blk_frozen BK338.out 3
                      have hfz34_4 := blk_frozen BK338.out 4
                      have hfz34_5 := blk_frozen BK338.out 5
                      have hfz34_6 := blk_frozen BK338.out 6
                      go_wp2_with (first | (go_at_call 63; (with_reducible refine (posthornref21_on.calls kj9 a0_0 a0_1 a0_2 a0_3 _ _ l0_4 _ _ l0_5 _ _ l0_6 t347 false _ ?side1 ?side2 ?side3 ?side4 ?side5 ?side6 A29.out).mono ?_); (case side1 => repeat (first | exact (Kd.C_below HR0_4.out HB.out) | (with_reducible refine Kd.C_alloc ?_ _) | (with_reducible refine Kd.C_drewN ?_ _) | (with_reducible refine Kd.C_drew ?_))); (case side2 => exact HC0_4.out); (case side3 => repeat (first | exact (Kd.C_below HR0_5.out HB.out) | (with_reducible refine Kd.C_alloc ?_ _) | (with_reducible refine Kd.C_drewN ?_ _) | (with_reducible refine Kd.C_drew ?_))); (case side4 => exact HC0_5.out); (case side5 => repeat (first | exact (Kd.C_below HR0_6.out HB.out) | (with_reducible refine Kd.C_alloc ?_ _) | (with_reducible refine Kd.C_drewN ?_ _) | (with_reducible refine Kd.C_drew ?_))); (case side6 => exact HC0_6.out); rintro e w35 ⟨rfl, hb⟩; have n0_ := Aside0.mk (blk_below (g := gb338) (o := .cells #[.int .i64 a0_0, .int .i64 a0_1, .int .i64 a0_2, .int .i64 a0_3, .slice A0_4 l0_4.length c0_4, .slice A0_5 l0_5.length c0_5, .slice A0_6 l0_6.length c0_6] 34 (0, 0)) (by (with_reducible repeat (first | refine blk_drewN ?_ _ | refine blk_drew ?_ | refine blk_alloc ?_ _)); exact BK338.out) hb); have n1_ := Aside0.mk (below_step (by repeat (first | (with_reducible first | exact HB.out | apply below_alloc | apply pw_below_drewN | apply below_drew1 | refine below_set ?_ GE338.out) | exact HB.out)) hb); clear BK338; clear HB; have BK338 := n0_; have HB := n1_; clear n0_ n1_; (try clear hb); (try clear hb2); (try clear hk); (try clear hi); have hcz36_0 : w35.cell? ⟨gb338, 0, none⟩ = some (.int .i64 a0_0) := (blk_cell BK338.out 0).trans rfl; have hcz36_1 : w35.cell? ⟨gb338, 1, none⟩ = some (.int .i64 a0_1) := (blk_cell BK338.out 1).trans rfl; have hcz36_2 : w35.cell? ⟨gb338, 2, none⟩ = some (.int .i64 a0_2) := (blk_cell BK338.out 2).trans rfl; have hcz36_3 : w35.cell? ⟨gb338, 3, none⟩ = some (.int .i64 a0_3) := (blk_cell BK338.out 3).trans rfl; have hcz36_4 : w35.cell? ⟨gb338, 4, none⟩ = some (.slice A0_4 l0_4.length c0_4) := (blk_cell BK338.out 4).trans rfl; have hcz36_5 : w35.cell? ⟨gb338, 5, none⟩ = some (.slice A0_5 l0_5.length c0_5) := (blk_cell BK338.out 5).trans rfl; have hcz36_6 : w35.cell? ⟨gb338, 6, none⟩ = some (.slice A0_6 l0_6.length c0_6) := (blk_cell BK338.out 6).trans rfl; have hfz36_0 := blk_frozen BK338.out 0; have hfz36_1 := blk_frozen BK338.out 1; have hfz36_2 := blk_frozen BK338.out 2; have hfz36_3 := blk_frozen BK338.out 3; have hfz36_4 := blk_frozen BK338.out 4; have hfz36_5 := blk_frozen BK338.out 5; have hfz36_6 := blk_frozen BK338.out 6))
                      go_ret
                      exact ⟨by first | rfl | (simp [errW_none, errW_some] <;> rfl) | (simp [*, errW_none, errW_some] <;> rfl), by repeat (first | (with_reducible first | exact HB.out | apply below_alloc | apply pw_below_drewN | apply below_drew1 | refine below_set ?_ GE338.out) | exact HB.out)⟩
                    · rw [if_neg c33] at H
                      have c33b0 : ((l0_6.length : Int) == 0) = false := beq_eq_false_iff_ne.mpr c33
                      have c33b1 : ((l0_6.length : Int) != 0) = true := bne_iff_ne.mpr c33
                      have c33b2 : ¬ (l0_6 = []) := fun h_ => c33 (by rw [h_]; rfl)
                      obtain rfl := Option.some.inj H
                      have hcz37_0 : wc.cell? ⟨gb338, 0, none⟩ = some (.int .i64 a0_0) := (blk_cell BK338.out 0).trans rfl
                      have hcz37_1 : wc.cell? ⟨gb338, 1, none⟩ = some (.int .i64 a0_1) := (blk_cell BK338.out 1).trans rfl
                      have hcz37_2 : wc.cell? ⟨gb338, 2, none⟩ = some (.int .i64 a0_2) := (blk_cell BK338.out 2).trans rfl
                      have hcz37_3 : wc.cell? ⟨gb338, 3, none⟩ = some (.int .i64 a0_3) := (blk_cell BK338.out 3).trans rfl
                      have hcz37_4 : wc.cell? ⟨gb338, 4, none⟩ = some (.slice A0_4 l0_4.length c0_4) := (blk_cell BK338.out 4).trans rfl
                      have hcz37_5 : wc.cell? ⟨gb338, 5, none⟩ = some (.slice A0_5 l0_5.length c0_5) := (blk_cell BK338.out 5).trans rfl
                      have hcz37_6 : wc.cell? ⟨gb338, 6, none⟩ = some (.slice A0_6 l0_6.length c0_6) := (blk_cell BK338.out 6).trans rfl
                      have hfz37_0 := blk_frozen BK338.out 0
                      have hfz37_1 := blk_frozen BK338.out 1
                      have hfz37_2 := blk_frozen BK338.out 2
                      have hfz37_3 := blk_frozen BK338.out 3
                      have hfz37_4 := blk_frozen BK338.out 4
                      have hfz37_5 := blk_frozen BK338.out 5
                      have hfz37_6 := blk_frozen BK338.out 6
                      go_wp2_with (first | (go_at_call 63; (with_reducible refine (posthornref21_on.calls kj9 a0_0 a0_1 a0_2 a0_3 _ _ l0_4 _ _ l0_5 _ _ l0_6 t347 false _ ?side1 ?side2 ?side3 ?side4 ?side5 ?side6 A29.out).mono ?_); (case side1 => repeat (first | exact (Kd.C_below HR0_4.out HB.out) | (with_reducible refine Kd.C_alloc ?_ _) | (with_reducible refine Kd.C_drewN ?_ _) | (with_reducible refine Kd.C_drew ?_))); (case side2 => exact HC0_4.out); (case side3 => repeat (first | exact (Kd.C_below HR0_5.out HB.out) | (with_reducible refine Kd.C_alloc ?_ _) | (with_reducible refine Kd.C_drewN ?_ _) | (with_reducible refine Kd.C_drew ?_))); (case side4 => exact HC0_5.out); (case side5 => repeat (first | exact (Kd.C_below HR0_6.out HB.out) | (with_reducible refine Kd.C_alloc ?_ _) | (with_reducible refine Kd.C_drewN ?_ _) | (with_reducible refine Kd.C_drew ?_))); (case side6 => exact HC0_6.out); rintro e w38 ⟨rfl, hb⟩; have n0_ := Aside0.mk (blk_below (g := gb338) (o := .cells #[.int .i64 a0_0, .int .i64 a0_1, .int .i64 a0_2, .int .i64 a0_3, .slice A0_4 l0_4.length c0_4, .slice A0_5 l0_5.length c0_5, .slice A0_6 l0_6.length c0_6] 34 (0, 0)) (by (with_reducible repeat (first | refine blk_drewN ?_ _ | refine blk_drew ?_ | refine blk_alloc ?_ _)); exact BK338.out) hb); have n1_ := Aside0.mk (below_step (by repeat (first | (with_reducible first | exact HB.out | apply below_alloc | apply pw_below_drewN | apply below_drew1 | refine below_set ?_ GE338.out) | exact HB.out)) hb); clear BK338; clear HB; have BK338 := n0_; have HB := n1_; clear n0_ n1_; (try clear hb); (try clear hb2); (try clear hk); (try clear hi); have hcz39_0 : w38.cell? ⟨gb338, 0, none⟩ = some (.int .i64 a0_0) := (blk_cell BK338.out 0).trans rfl; have hcz39_1 : w38.cell? ⟨gb338, 1, none⟩ = some (.int .i64 a0_1) := (blk_cell BK338.out 1).trans rfl; have hcz39_2 : w38.cell? ⟨gb338, 2, none⟩ = some (.int .i64 a0_2) := (blk_cell BK338.out 2).trans rfl; have hcz39_3 : w38.cell? ⟨gb338, 3, none⟩ = some (.int .i64 a0_3) := (blk_cell BK338.out 3).trans rfl; have hcz39_4 : w38.cell? ⟨gb338, 4, none⟩ = some (.slice A0_4 l0_4.length c0_4) := (blk_cell BK338.out 4).trans rfl; have hcz39_5 : w38.cell? ⟨gb338, 5, none⟩ = some (.slice A0_5 l0_5.length c0_5) := (blk_cell BK338.out 5).trans rfl; have hcz39_6 : w38.cell? ⟨gb338, 6, none⟩ = some (.slice A0_6 l0_6.length c0_6) := (blk_cell BK338.out 6).trans rfl; have hfz39_0 := blk_frozen BK338.out 0; have hfz39_1 := blk_frozen BK338.out 1; have hfz39_2 := blk_frozen BK338.out 2; have hfz39_3 := blk_frozen BK338.out 3; have hfz39_4 := blk_frozen BK338.out 4; have hfz39_5 := blk_frozen BK338.out 5; have hfz39_6 := blk_frozen BK338.out 6))
                      go_ret
                      exact ⟨by first | rfl | (simp [errW_none, errW_some] <;> rfl) | (simp [*, errW_none, errW_some] <;> rfl), by repeat (first | (with_reducible first | exact HB.out | apply below_alloc | apply pw_below_drewN | apply below_drew1 | refine below_set ?_ GE338.out) | exact HB.out)⟩
                · rw [if_neg c28] at H
                  have c28b0 : ((Int.tmod (wrap64 (Int.tdiv (wrap64 ((wrap64 ((wrap64 (a2 - t347)) - a1)) + t349)) 7)) a0_1) == 0) = false := beq_eq_false_iff_ne.mpr c28
                  have c28b1 : ((Int.tmod (wrap64 (Int.tdiv (wrap64 ((wrap64 ((wrap64 (a2 - t347)) - a1)) + t349)) 7)) a0_1) != 0) = true := bne_iff_ne.mpr c28
                  obtain rfl := Option.some.inj H
                  have hcz40_0 : wc.cell? ⟨gb338, 0, none⟩ = some (.int .i64 a0_0) := (blk_cell BK338.out 0).trans rfl
                  have hcz40_1 : wc.cell? ⟨gb338, 1, none⟩ = some (.int .i64 a0_1) := (blk_cell BK338.out 1).trans rfl
                  have hcz40_2 : wc.cell? ⟨gb338, 2, none⟩ = some (.int .i64 a0_2) := (blk_cell BK338.out 2).trans rfl
                  have hcz40_3 : wc.cell? ⟨gb338, 3, none⟩ = some (.int .i64 a0_3) := (blk_cell BK338.out 3).trans rfl
                  have hcz40_4 : wc.cell? ⟨gb338, 4, none⟩ = some (.slice A0_4 l0_4.length c0_4) := (blk_cell BK338.out 4).trans rfl
                  have hcz40_5 : wc.cell? ⟨gb338, 5, none⟩ = some (.slice A0_5 l0_5.length c0_5) := (blk_cell BK338.out 5).trans rfl
                  have hcz40_6 : wc.cell? ⟨gb338, 6, none⟩ = some (.slice A0_6 l0_6.length c0_6) := (blk_cell BK338.out 6).trans rfl
                  have hfz40_0 := blk_frozen BK338.out 0
                  have hfz40_1 := blk_frozen BK338.out 1
                  have hfz40_2 := blk_frozen BK338.out 2
                  have hfz40_3 := blk_frozen BK338.out 3
                  have hfz40_4 := blk_frozen BK338.out 4
                  have hfz40_5 := blk_frozen BK338.out 5
                  have hfz40_6 := blk_frozen BK338.out 6
                  go_wp2
                  go_ret
                  exact ⟨by first | rfl | (simp [errW_none, errW_some] <;> rfl) | (simp [*, errW_none, errW_some] <;> rfl), by repeat (first | (with_reducible first | exact HB.out | apply below_alloc | apply pw_below_drewN | apply below_drew1 | refine below_set ?_ GE338.out) | exact HB.out)⟩
            · rw [if_neg c26] at H
              have c26b0 : (a0_0 == 2) = false := beq_eq_false_iff_ne.mpr c26
              have c26b1 : (a0_0 != 2) = true := bne_iff_ne.mpr c26
              by_cases c41 : a0_0 = 3
              · rw [if_pos c41] at H
                have c41b0 : (a0_0 == 3) = true := beq_iff_eq.mpr c41
                have c41b1 : (a0_0 != 3) = false := bne_eq_false_iff_eq.mpr c41
                clear c41
                by_cases c42 : a0_1 = 0
                · rw [if_pos c42] at H
                  exact absurd H (by simp)
                · rw [if_neg c42] at H
                  have c42b0 : (a0_1 == 0) = false := beq_eq_false_iff_ne.mpr c42
                  have c42b1 : (a0_1 != 0) = true := bne_iff_ne.mpr c42
                  by_cases c43 : (Int.tmod (wrap64 ((wrap64 ((wrap64 ((wrap64 (12 * t339)) + t340)) - (wrap64 (12 * t343)))) - t344)) a0_1) = 0
                  · rw [if_pos c43] at H
                    have c43b0 : ((Int.tmod (wrap64 ((wrap64 ((wrap64 ((wrap64 (12 * t339)) + t340)) - (wrap64 (12 * t343)))) - t344)) a0_1) == 0) = true := beq_iff_eq.mpr c43
                    have c43b1 : ((Int.tmod (wrap64 ((wrap64 ((wrap64 ((wrap64 (12 * t339)) + t340)) - (wrap64 (12 * t343)))) - t344)) a0_1) != 0) = false := bne_eq_false_iff_eq.mpr c43
                    clear c43
                    replace H := Option.bind_eq_some_iff.mp H
                    obtain ⟨t354, A440, H⟩ := H
                    replace H : (some t354) = some r := H
                    have A44 := Aside0.mk A440
                    clear A440
                    obtain rfl := Option.some.inj H
                    have hcz45_0 : wc.cell? ⟨gb338, 0, none⟩ = some (.int .i64 a0_0) := (blk_cell BK338.out 0).trans rfl
                    have hcz45_1 : wc.cell? ⟨gb338, 1, none⟩ = some (.int .i64 a0_1) := (blk_cell BK338.out 1).trans rfl
                    have hcz45_2 : wc.cell? ⟨gb338, 2, none⟩ = some (.int .i64 a0_2) := (blk_cell BK338.out 2).trans rfl
                    have hcz45_3 : wc.cell? ⟨gb338, 3, none⟩ = some (.int .i64 a0_3) := (blk_cell BK338.out 3).trans rfl
                    have hcz45_4 : wc.cell? ⟨gb338, 4, none⟩ = some (.slice A0_4 l0_4.length c0_4) := (blk_cell BK338.out 4).trans rfl
                    have hcz45_5 : wc.cell? ⟨gb338, 5, none⟩ = some (.slice A0_5 l0_5.length c0_5) := (blk_cell BK338.out 5).trans rfl
                    have hcz45_6 : wc.cell? ⟨gb338, 6, none⟩ = some (.slice A0_6 l0_6.length c0_6) := (blk_cell BK338.out 6).trans rfl
                    have hfz45_0 := blk_frozen BK338.out 0
                    have hfz45_1 := blk_frozen BK338.out 1
                    have hfz45_2 := blk_frozen BK338.out 2
                    have hfz45_3 := blk_frozen BK338.out 3
                    have hfz45_4 := blk_frozen BK338.out 4
                    have hfz45_5 := blk_frozen BK338.out 5
                    have hfz45_6 := blk_frozen BK338.out 6
                    go_wp2_with (first | (go_at_call 64; (with_reducible refine (posthornref21_month.calls kj9 a0_0 a0_1 a0_2 a0_3 _ _ l0_4 _ _ l0_5 _ _ l0_6 t339 t340 t341 t347 t345 t354 _ ?side1 ?side2 ?side3 ?side4 ?side5 ?side6 A44.out).mono ?_); (case side1 => repeat (first | exact (Kd.C_below HR0_4.out HB.out) | (with_reducible refine Kd.C_alloc ?_ _) | (with_reducible refine Kd.C_drewN ?_ _) | (with_reducible refine Kd.C_drew ?_))); (case side2 => exact HC0_4.out); (case side3 => repeat (first | exact (Kd.C_below HR0_5.out HB.out) | (with_reducible refine Kd.C_alloc ?_ _) | (with_reducible refine Kd.C_drewN ?_ _) | (with_reducible refine Kd.C_drew ?_))); (case side4 => exact HC0_5.out); (case side5 => repeat (first | exact (Kd.C_below HR0_6.out HB.out) | (with_reducible refine Kd.C_alloc ?_ _) | (with_reducible refine Kd.C_drewN ?_ _) | (with_reducible refine Kd.C_drew ?_))); (case side6 => exact HC0_6.out); rintro e w46 ⟨rfl, hb⟩; have n0_ := Aside0.mk (blk_below (g := gb338) (o := .cells #[.int .i64 a0_0, .int .i64 a0_1, .int .i64 a0_2, .int .i64 a0_3, .slice A0_4 l0_4.length c0_4, .slice A0_5 l0_5.length c0_5, .slice A0_6 l0_6.length c0_6] 34 (0, 0)) (by (with_reducible repeat (first | refine blk_drewN ?_ _ | refine blk_drew ?_ | refine blk_alloc ?_ _)); exact BK338.out) hb); have n1_ := Aside0.mk (below_step (by repeat (first | (with_reducible first | exact HB.out | apply below_alloc | apply pw_below_drewN | apply below_drew1 | refine below_set ?_ GE338.out) | exact HB.out)) hb); clear BK338; clear HB; have BK338 := n0_; have HB := n1_; clear n0_ n1_; (try clear hb); (try clear hb2); (try clear hk); (try clear hi)))
                    go_ret
                    exact ⟨by first | rfl | (simp [errW_none, errW_some] <;> rfl) | (simp [*, errW_none, errW_some] <;> rfl), by repeat (first | (with_reducible first | exact HB.out | apply below_alloc | apply pw_below_drewN | apply below_drew1 | refine below_set ?_ GE338.out) | exact HB.out)⟩
                  · rw [if_neg c43] at H
                    have c43b0 : ((Int.tmod (wrap64 ((wrap64 ((wrap64 ((wrap64 (12 * t339)) + t340)) - (wrap64 (12 * t343)))) - t344)) a0_1) == 0) = false := beq_eq_false_iff_ne.mpr c43
                    have c43b1 : ((Int.tmod (wrap64 ((wrap64 ((wrap64 ((wrap64 (12 * t339)) + t340)) - (wrap64 (12 * t343)))) - t344)) a0_1) != 0) = true := bne_iff_ne.mpr c43
                    obtain rfl := Option.some.inj H
                    have hcz47_0 : wc.cell? ⟨gb338, 0, none⟩ = some (.int .i64 a0_0) := (blk_cell BK338.out 0).trans rfl
                    have hcz47_1 : wc.cell? ⟨gb338, 1, none⟩ = some (.int .i64 a0_1) := (blk_cell BK338.out 1).trans rfl
                    have hcz47_2 : wc.cell? ⟨gb338, 2, none⟩ = some (.int .i64 a0_2) := (blk_cell BK338.out 2).trans rfl
                    have hcz47_3 : wc.cell? ⟨gb338, 3, none⟩ = some (.int .i64 a0_3) := (blk_cell BK338.out 3).trans rfl
                    have hcz47_4 : wc.cell? ⟨gb338, 4, none⟩ = some (.slice A0_4 l0_4.length c0_4) := (blk_cell BK338.out 4).trans rfl
                    have hcz47_5 : wc.cell? ⟨gb338, 5, none⟩ = some (.slice A0_5 l0_5.length c0_5) := (blk_cell BK338.out 5).trans rfl
                    have hcz47_6 : wc.cell? ⟨gb338, 6, none⟩ = some (.slice A0_6 l0_6.length c0_6) := (blk_cell BK338.out 6).trans rfl
                    have hfz47_0 := blk_frozen BK338.out 0
                    have hfz47_1 := blk_frozen BK338.out 1
                    have hfz47_2 := blk_frozen BK338.out 2
                    have hfz47_3 := blk_frozen BK338.out 3
                    have hfz47_4 := blk_frozen BK338.out 4
                    have hfz47_5 := blk_frozen BK338.out 5
                    have hfz47_6 := blk_frozen BK338.out 6
                    go_wp2
                    go_ret
                    exact ⟨by first | rfl | (simp [errW_none, errW_some] <;> rfl) | (simp [*, errW_none, errW_some] <;> rfl), by repeat (first | (with_reducible first | exact HB.out | apply below_alloc | apply pw_below_drewN | apply below_drew1 | refine below_set ?_ GE338.out) | exact HB.out)⟩
              · rw [if_neg c41] at H
                have c41b0 : (a0_0 == 3) = false := beq_eq_false_iff_ne.mpr c41
                have c41b1 : (a0_0 != 3) = true := bne_iff_ne.mpr c41
                by_cases c48 : a0_1 = 0
                · rw [if_pos c48] at H
                  exact absurd H (by simp)
                · rw [if_neg c48] at H
                  have c48b0 : (a0_1 == 0) = false := beq_eq_false_iff_ne.mpr c48
                  have c48b1 : (a0_1 != 0) = true := bne_iff_ne.mpr c48
                  by_cases c49 : (Int.tmod (wrap64 (t339 - t343)) a0_1) = 0
                  · rw [if_pos c49] at H
                    have c49b0 : ((Int.tmod (wrap64 (t339 - t343)) a0_1) == 0) = true := beq_iff_eq.mpr c49
                    have c49b1 : ((Int.tmod (wrap64 (t339 - t343)) a0_1) != 0) = false := bne_eq_false_iff_eq.mpr c49
                    clear c49
                    by_cases c50 : (l0_4.length : Int) > 0
                    · rw [if_pos c50] at H
                      have c50b0 : decide (0 < (l0_4.length : Int)) = true := decide_eq_true c50
                      have c50b1 : decide (0 < l0_4.length) = true := decide_eq_true (by omega)
                      clear c50
                      replace H := Option.bind_eq_some_iff.mp H
                      obtain ⟨t355, A510, H⟩ := H
                      replace H : (some t355) = some r := H
                      have A51 := Aside0.mk A510
                      clear A510
                      obtain rfl := Option.some.inj H
                      have hcz52_0 : wc.cell? ⟨gb338, 0, none⟩ = some (.int .i64 a0_0) := (blk_cell BK338.out 0).trans rfl
                      have hcz52_1 : wc.cell? ⟨gb338, 1, none⟩ = some (.int .i64 a0_1) := (blk_cell BK338.out 1).trans rfl
                      have hcz52_2 : wc.cell? ⟨gb338, 2, none⟩ = some (.int .i64 a0_2) := (blk_cell BK338.out 2).trans rfl
                      have hcz52_3 : wc.cell? ⟨gb338, 3, none⟩ = some (.int .i64 a0_3) := (blk_cell BK338.out 3).trans rfl
                      have hcz52_4 : wc.cell? ⟨gb338, 4, none⟩ = some (.slice A0_4 l0_4.length c0_4) := (blk_cell BK338.out 4).trans rfl
                      have hcz52_5 : wc.cell? ⟨gb338, 5, none⟩ = some (.slice A0_5 l0_5.length c0_5) := (blk_cell BK338.out 5).trans rfl
                      have hcz52_6 : wc.cell? ⟨gb338, 6, none⟩ = some (.slice A0_6 l0_6.length c0_6) := (blk_cell BK338.out 6).trans rfl
                      have hfz52_0 := blk_frozen BK338.out 0
                      have hfz52_1 := blk_frozen BK338.out 1
                      have hfz52_2 := blk_frozen BK338.out 2
                      have hfz52_3 := blk_frozen BK338.out 3
                      have hfz52_4 := blk_frozen BK338.out 4
                      have hfz52_5 := blk_frozen BK338.out 5
                      have hfz52_6 := blk_frozen BK338.out 6
                      go_wp2_with (first | (go_at_call 64; (with_reducible refine (posthornref21_month.calls kj9 a0_0 a0_1 a0_2 a0_3 _ _ l0_4 _ _ l0_5 _ _ l0_6 t339 t340 t341 t347 t345 t355 _ ?side1 ?side2 ?side3 ?side4 ?side5 ?side6 A51.out).mono ?_); (case side1 => repeat (first | exact (Kd.C_below HR0_4.out HB.out) | (with_reducible refine Kd.C_alloc ?_ _) | (with_reducible refine Kd.C_drewN ?_ _) | (with_reducible refine Kd.C_drew ?_))); (case side2 => exact HC0_4.out); (case side3 => repeat (first | exact (Kd.C_below HR0_5.out HB.out) | (with_reducible refine Kd.C_alloc ?_ _) | (with_reducible refine Kd.C_drewN ?_ _) | (with_reducible refine Kd.C_drew ?_))); (case side4 => exact HC0_5.out); (case side5 => repeat (first | exact (Kd.C_below HR0_6.out HB.out) | (with_reducible refine Kd.C_alloc ?_ _) | (with_reducible refine Kd.C_drewN ?_ _) | (with_reducible refine Kd.C_drew ?_))); (case side6 => exact HC0_6.out); rintro e w53 ⟨rfl, hb⟩; have n0_ := Aside0.mk (blk_below (g := gb338) (o := .cells #[.int .i64 a0_0, .int .i64 a0_1, .int .i64 a0_2, .int .i64 a0_3, .slice A0_4 l0_4.length c0_4, .slice A0_5 l0_5.length c0_5, .slice A0_6 l0_6.length c0_6] 34 (0, 0)) (by (with_reducible repeat (first | refine blk_drewN ?_ _ | refine blk_drew ?_ | refine blk_alloc ?_ _)); exact BK338.out) hb); have n1_ := Aside0.mk (below_step (by repeat (first | (with_reducible first | exact HB.out | apply below_alloc | apply pw_below_drewN | apply below_drew1 | refine below_set ?_ GE338.out) | exact HB.out)) hb); clear BK338; clear HB; have BK338 := n0_; have HB := n1_; clear n0_ n1_; (try clear hb); (try clear hb2); (try clear hk); (try clear hi)))
                      go_ret
                      exact ⟨by first | rfl | (simp [errW_none, errW_some] <;> rfl) | (simp [*, errW_none, errW_some] <;> rfl), by repeat (first | (with_reducible first | exact HB.out | apply below_alloc | apply pw_below_drewN | apply below_drew1 | refine below_set ?_ GE338.out) | exact HB.out)⟩
                    · rw [if_neg c50] at H
                      have c50b0 : decide (0 < (l0_4.length : Int)) = false := decide_eq_false c50
                      have c50b1 : decide (0 < l0_4.length) = false := decide_eq_false (by omega)
                      clear c50
                      by_cases c54 : t340 = t344
                      · rw [if_pos c54] at H
                        have c54b0 : (t340 == t344) = true := beq_iff_eq.mpr c54
                        have c54b1 : (t340 != t344) = false := bne_eq_false_iff_eq.mpr c54
                        clear c54
                        replace H := Option.bind_eq_some_iff.mp H
                        obtain ⟨t356, A550, H⟩ := H
                        replace H : (some t356) = some r := H
                        have A55 := Aside0.mk A550
                        clear A550
                        obtain rfl := Option.some.inj H
                        have hcz56_0 : wc.cell? ⟨gb338, 0, none⟩ = some (.int .i64 a0_0) := (blk_cell BK338.out 0).trans rfl
                        have hcz56_1 : wc.cell? ⟨gb338, 1, none⟩ = some (.int .i64 a0_1) := (blk_cell BK338.out 1).trans rfl
                        have hcz56_2 : wc.cell? ⟨gb338, 2, none⟩ = some (.int .i64 a0_2) := (blk_cell BK338.out 2).trans rfl
                        have hcz56_3 : wc.cell? ⟨gb338, 3, none⟩ = some (.int .i64 a0_3) := (blk_cell BK338.out 3).trans rfl
                        have hcz56_4 : wc.cell? ⟨gb338, 4, none⟩ = some (.slice A0_4 l0_4.length c0_4) := (blk_cell BK338.out 4).trans rfl
                        have hcz56_5 : wc.cell? ⟨gb338, 5, none⟩ = some (.slice A0_5 l0_5.length c0_5) := (blk_cell BK338.out 5).trans rfl
                        have hcz56_6 : wc.cell? ⟨gb338, 6, none⟩ = some (.slice A0_6 l0_6.length c0_6) := (blk_cell BK338.out 6).trans rfl
                        have hfz56_0 := blk_frozen BK338.out 0
                        have hfz56_1 := blk_frozen BK338.out 1
                        have hfz56_2 := blk_frozen BK338.out 2
                        have hfz56_3 := blk_frozen BK338.out 3
                        have hfz56_4 := blk_frozen BK338.out 4
                        have hfz56_5 := blk_frozen BK338.out 5
                        have hfz56_6 := blk_frozen BK338.out 6
                        go_wp2_with (first | (go_at_call 64; (with_reducible refine (posthornref21_month.calls kj9 a0_0 a0_1 a0_2 a0_3 _ _ l0_4 _ _ l0_5 _ _ l0_6 t339 t340 t341 t347 t345 t356 _ ?side1 ?side2 ?side3 ?side4 ?side5 ?side6 A55.out).mono ?_); (case side1 => repeat (first | exact (Kd.C_below HR0_4.out HB.out) | (with_reducible refine Kd.C_alloc ?_ _) | (with_reducible refine Kd.C_drewN ?_ _) | (with_reducible refine Kd.C_drew ?_))); (case side2 => exact HC0_4.out); (case side3 => repeat (first | exact (Kd.C_below HR0_5.out HB.out) | (with_reducible refine Kd.C_alloc ?_ _) | (with_reducible refine Kd.C_drewN ?_ _) | (with_reducible refine Kd.C_drew ?_))); (case side4 => exact HC0_5.out); (case side5 => repeat (first | exact (Kd.C_below HR0_6.out HB.out) | (with_reducible refine Kd.C_alloc ?_ _) | (with_reducible refine Kd.C_drewN ?_ _) | (with_reducible refine Kd.C_drew ?_))); (case side6 => exact HC0_6.out); rintro e w57 ⟨rfl, hb⟩; have n0_ := Aside0.mk (blk_below (g := gb338) (o := .cells #[.int .i64 a0_0, .int .i64 a0_1, .int .i64 a0_2, .int .i64 a0_3, .slice A0_4 l0_4.length c0_4, .slice A0_5 l0_5.length c0_5, .slice A0_6 l0_6.length c0_6] 34 (0, 0)) (by (with_reducible repeat (first | refine blk_drewN ?_ _ | refine blk_drew ?_ | refine blk_alloc ?_ _)); exact BK338.out) hb); have n1_ := Aside0.mk (below_step (by repeat (first | (with_reducible first | exact HB.out | apply below_alloc | apply pw_below_drewN | apply below_drew1 | refine below_set ?_ GE338.out) | exact HB.out)) hb); clear BK338; clear HB; have BK338 := n0_; have HB := n1_; clear n0_ n1_; (try clear hb); (try clear hb2); (try clear hk); (try clear hi)))
                        go_ret
                        exact ⟨by first | rfl | (simp [errW_none, errW_some] <;> rfl) | (simp [*, errW_none, errW_some] <;> rfl), by repeat (first | (with_reducible first | exact HB.out | apply below_alloc | apply pw_below_drewN | apply below_drew1 | refine below_set ?_ GE338.out) | exact HB.out)⟩
                      · rw [if_neg c54] at H
                        have c54b0 : (t340 == t344) = false := beq_eq_false_iff_ne.mpr c54
                        have c54b1 : (t340 != t344) = true := bne_iff_ne.mpr c54
                        obtain rfl := Option.some.inj H
                        have hcz58_0 : wc.cell? ⟨gb338, 0, none⟩ = some (.int .i64 a0_0) := (blk_cell BK338.out 0).trans rfl
                        have hcz58_1 : wc.cell? ⟨gb338, 1, none⟩ = some (.int .i64 a0_1) := (blk_cell BK338.out 1).trans rfl
                        have hcz58_2 : wc.cell? ⟨gb338, 2, none⟩ = some (.int .i64 a0_2) := (blk_cell BK338.out 2).trans rfl
                        have hcz58_3 : wc.cell? ⟨gb338, 3, none⟩ = some (.int .i64 a0_3) := (blk_cell BK338.out 3).trans rfl
                        have hcz58_4 : wc.cell? ⟨gb338, 4, none⟩ = some (.slice A0_4 l0_4.length c0_4) := (blk_cell BK338.out 4).trans rfl
                        have hcz58_5 : wc.cell? ⟨gb338, 5, none⟩ = some (.slice A0_5 l0_5.length c0_5) := (blk_cell BK338.out 5).trans rfl
                        have hcz58_6 : wc.cell? ⟨gb338, 6, none⟩ = some (.slice A0_6 l0_6.length c0_6) := (blk_cell BK338.out 6).trans rfl
                        have hfz58_0 := blk_frozen BK338.out 0
                        have hfz58_1 := blk_frozen BK338.out 1
                        have hfz58_2 := blk_frozen BK338.out 2
                        have hfz58_3 := blk_frozen BK338.out 3
                        have hfz58_4 := blk_frozen BK338.out 4
                        have hfz58_5 := blk_frozen BK338.out 5
                        have hfz58_6 := blk_frozen BK338.out 6
                        go_wp2
                        go_ret
                        exact ⟨by first | rfl | (simp [errW_none, errW_some] <;> rfl) | (simp [*, errW_none, errW_some] <;> rfl), by repeat (first | (with_reducible first | exact HB.out | apply below_alloc | apply pw_below_drewN | apply below_drew1 | refine below_set ?_ GE338.out) | exact HB.out)⟩
                  · rw [if_neg c49] at H
                    have c49b0 : ((Int.tmod (wrap64 (t339 - t343)) a0_1) == 0) = false := beq_eq_false_iff_ne.mpr c49
                    have c49b1 : ((Int.tmod (wrap64 (t339 - t343)) a0_1) != 0) = true := bne_iff_ne.mpr c49
                    obtain rfl := Option.some.inj H
                    have hcz59_0 : wc.cell? ⟨gb338, 0, none⟩ = some (.int .i64 a0_0) := (blk_cell BK338.out 0).trans rfl
                    have hcz59_1 : wc.cell? ⟨gb338, 1, none⟩ = some (.int .i64 a0_1) := (blk_cell BK338.out 1).trans rfl
                    have hcz59_2 : wc.cell? ⟨gb338, 2, none⟩ = some (.int .i64 a0_2) := (blk_cell BK338.out 2).trans rfl
                    have hcz59_3 : wc.cell? ⟨gb338, 3, none⟩ = some (.int .i64 a0_3) := (blk_cell BK338.out 3).trans rfl
                    have hcz59_4 : wc.cell? ⟨gb338, 4, none⟩ = some (.slice A0_4 l0_4.length c0_4) := (blk_cell BK338.out 4).trans rfl
                    have hcz59_5 : wc.cell? ⟨gb338, 5, none⟩ = some (.slice A0_5 l0_5.length c0_5) := (blk_cell BK338.out 5).trans rfl
                    have hcz59_6 : wc.cell? ⟨gb338, 6, none⟩ = some (.slice A0_6 l0_6.length c0_6) := (blk_cell BK338.out 6).trans rfl
                    have hfz59_0 := blk_frozen BK338.out 0
                    have hfz59_1 := blk_frozen BK338.out 1
                    have hfz59_2 := blk_frozen BK338.out 2
                    have hfz59_3 := blk_frozen BK338.out 3
                    have hfz59_4 := blk_frozen BK338.out 4
                    have hfz59_5 := blk_frozen BK338.out 5
                    have hfz59_6 := blk_frozen BK338.out 6
                    go_wp2
                    go_ret
                    exact ⟨by first | rfl | (simp [errW_none, errW_some] <;> rfl) | (simp [*, errW_none, errW_some] <;> rfl), by repeat (first | (with_reducible first | exact HB.out | apply below_alloc | apply pw_below_drewN | apply below_drew1 | refine below_set ?_ GE338.out) | exact HB.out)⟩
end Go.Proofs.YtfbmjonhohebiaaGreatDoor.PRecurExpands
end
