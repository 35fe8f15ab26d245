/- Texts merged: what the law needs, and no more. -/
import Derived.Test.YtfbmjonhohebiaaGreatDoorQwe
section
set_option linter.unusedVariables false
set_option linter.unusedSimpArgs false
namespace Go.Proofs.YtfbmjonhohebiaaGreatDoor
open Go.RowKit Go.Proofs.YtfbmjonhohebiaaGreatDoorW.PrintWords Go.Proofs.YtfbmjonhohebiaaGreatDoorW.PrintLast Go.Proofs.YtfbmjonhohebiaaGreatDoorW.PrintMore PRecurExpands
theorem civil_some (n : Int) (h0 : 0 ≤ n) (h1 : n ≤ 2932896) : ∃ y m d, Cal.IsCivil n y m d := by
  obtain ⟨e, w', fr, ⟨⟨y, m, d, h, _⟩, _⟩, _⟩ := when_Civil n h0 h1 default []
  exact ⟨y, m, d, h⟩
theorem when_Civil_at {n y m d : Int} (h0 : 0 ≤ n) (h1 : n ≤ 2932896) (h : Cal.IsCivil n y m d) (w : World) :
    Calls Tryz.prog 55 #[.int .i64 n] w fun e w' => e = .returned (.tuple #[.int .i64 y, .int .i64 m, .int .i64 d, .int .i64 0]) ∧ Below w.heap.size w w' := by
  refine (when_Civil n h0 h1 w).mono ?_
  rintro e w' ⟨⟨y', m', d', h', rfl⟩, hb⟩
  obtain ⟨rfl, rfl, rfl⟩ := h.uniq h'
  exact ⟨rfl, hb⟩
theorem date_Weekday (n : Int) (h0 : 0 ≤ n) (h1 : n ≤ 2932896) (w : World) :
    Calls Tryz.prog 56 #[.int .i64 n] w fun e w' => e = .returned (.tuple #[.int .i64 ((n + 3) % 7), .int .i64 0]) ∧ Below w.heap.size w w' := by
  have hk : date_Weekday.f n = some ((n + 3) % 7, 0) := by
    unfold date_Weekday.f
    rw [if_neg (by omega), if_neg (by omega), wrap64_in (by omega) (by omega), Int.tmod_eq_emod_of_nonneg (by omega)]
  exact (date_Weekday.calls n _ _ w hk).mono fun e w' h => ⟨h.1, h.2.below⟩
def matchS (f i : Int) (l4 l5 : List Int) (l6 : List S59) (first day y m d y0 m0 d0 : Int) : Bool :=
  if day < first then false
  else if l4 ≠ [] ∧ hasI l4 m = false then false
  else if f = 1 then ((day - first) % i == 0) && onS l6 ((day + 3) % 7)
  else if f = 2 then ((day - (day + 3) % 7 - first + (first + 3) % 7) / 7 % i == 0) && (if l6 = [] then (day + 3) % 7 == (first + 3) % 7 else onS l6 ((day + 3) % 7))
  else if f = 3 then ((12 * (y - y0) + m - m0) % i == 0) && mayS l5 l6 (Cal.mlen y m) d ((day + 3) % 7) d0
  else ((y - y0) % i == 0) && (decide (l4 ≠ []) || m == m0) && mayS l5 l6 (Cal.mlen y m) d ((day + 3) % 7) d0
theorem rule_on (a0 a1 a2 a3 : Int) (A4 A5 A6 : Option Addr) (c4 c5 c6 : Nat) (l4 l5 : List Int) (l6 : List S59) (wd : Int) (w : World)
    (hr4 : Kd.C (Kd.int .i64) w A4 l4.length l4) (hc4 : l4.length ≤ c4) (hr5 : Kd.C (Kd.int .i64) w A5 l5.length l5) (hc5 : l5.length ≤ c5) (hr6 : Kd.C k59 w A6 l6.length l6) (hc6 : l6.length ≤ c6) (hl6 : l6.length ≤ 1000000000) :
    Calls Tryz.prog 58 #[.agg #[.int .i64 a0, .int .i64 a1, .int .i64 a2, .int .i64 a3, .slice A4 l4.length c4, .slice A5 l5.length c5, .slice A6 l6.length c6], .int .i64 wd] w fun e w' =>
      e = .returned (.bool (onS l6 wd)) ∧ Below w.heap.size w w' := by
  obtain ⟨k, hk⟩ := (on_ev a0 a1 a2 a3 l4 l5 l6 wd hl6).rounds
  exact recur_Rule_on.calls k a0 a1 a2 a3 A4 c4 l4 A5 c5 l5 A6 c6 l6 wd _ w hr4 hc4 hr5 hc5 hr6 hc6 hk
set_option maxRecDepth 100000 in
set_option maxHeartbeats 4000000 in
theorem recur_match_early (a0 a1 a2 a3 : Int) (A4 A5 A6 : Option Addr) (c4 c5 c6 : Nat) (l4 l5 : List Int) (l6 : List S59) (first day y d y0 d0 : Int) (m m0 : Nat) (w : World)
    (hr4 : Kd.C (Kd.int .i64) w A4 l4.length l4) (hc4 : l4.length ≤ c4) (hr5 : Kd.C (Kd.int .i64) w A5 l5.length l5) (hc5 : l5.length ≤ c5) (hr6 : Kd.C k59 w A6 l6.length l6) (hc6 : l6.length ≤ c6)
    (hl4 : l4.length ≤ 1000000000) (hl5 : l5.length ≤ 1000000000) (hl6 : l6.length ≤ 1000000000)
    (hi0 : 1 ≤ a1) (hi1 : a1 ≤ 1000) (hf0 : 0 ≤ first) (hf1 : first ≤ 2932896) (hd0 : 0 ≤ day) (hd1 : day ≤ 2932896) (hcf : Cal.IsCivil first y0 m0 d0) (hcd : Cal.IsCivil day y m d) (hlt : day < first) :
    Calls Tryz.prog 27 #[.agg #[.int .i64 a0, .int .i64 a1, .int .i64 a2, .int .i64 a3, .slice A4 l4.length c4, .slice A5 l5.length c5, .slice A6 l6.length c6], .int .i64 first, .int .i64 day] w fun e w' =>
      e = .returned (.bool (matchS a0 a1 l4 l5 l6 first day y m d y0 m0 d0)) ∧ Below w.heap.size w w' := by
  have hfin : matchS a0 a1 l4 l5 l6 first day y m d y0 m0 d0 = false := by
    unfold matchS
    rw [if_pos hlt]
  have HF := Lib.hid hfin
  clear hfin
  have HR4 := Aside0.mk hr4
  have HR5 := Aside0.mk hr5
  have HR6 := Aside0.mk hr6
  have HCF := Aside0.mk hcf
  have HCD := Aside0.mk hcd
  clear hr4 hr5 hr6
  obtain ⟨u1, u2, u3, u4, u5, u6, -⟩ := hcf
  obtain ⟨v1, v2, v3, v4, v5, v6, -⟩ := hcd
  have mlF := mlen_le31 y0 m0
  have mlD := mlen_le31 y m
  have HB := Aside0.mk ((Below.refl w.heap.size w).alloc (Nat.le_refl _) (.cells #[.int .i64 a0, .int .i64 a1, .int .i64 a2, .int .i64 a3, .slice A4 l4.length c4, .slice A5 l5.length c5, .slice A6 l6.length c6] 25))
  have hz : w.heap.size < (w.alloc (.cells #[.int .i64 a0, .int .i64 a1, .int .i64 a2, .int .i64 a3, .slice A4 l4.length c4, .slice A5 l5.length c5, .slice A6 l6.length c6] 25)).heap.size := by simp
  go_enter Tryz.func27, Tryz.ntmps27
  go_wp2_with (first
      | (go_at_call 55; ((with_reducible refine (when_Civil_at hf0 hf1 HCF.out _).mono ?_); rintro e w2 ⟨rfl, hb2⟩; obtain ⟨hc2, hf2⟩ := bcell hb2; have hz : w.heap.size < w2.heap.size := Nat.lt_of_lt_of_le hz hb2.size; have HB' := Aside0.mk (HB.out.trans (hb2.mono HB.out.size)); clear HB hb2; have HB := HB'; clear HB'))
      | (go_at_call 55; ((with_reducible refine (when_Civil_at hd0 hd1 HCD.out _).mono ?_); rintro e w2 ⟨rfl, hb2⟩; obtain ⟨hc2, hf2⟩ := bcell hb2; have hz : w.heap.size < w2.heap.size := Nat.lt_of_lt_of_le hz hb2.size; have HB' := Aside0.mk (HB.out.trans (hb2.mono HB.out.size)); clear HB hb2; have HB := HB'; clear HB'))
      | (go_at_call 56; ((with_reducible refine (date_Weekday first hf0 hf1 _).mono ?_); rintro e w2 ⟨rfl, hb2⟩; obtain ⟨hc2, hf2⟩ := bcell hb2; have hz : w.heap.size < w2.heap.size := Nat.lt_of_lt_of_le hz hb2.size; have HB' := Aside0.mk (HB.out.trans (hb2.mono HB.out.size)); clear HB hb2; have HB := HB'; clear HB'))
      | (go_at_call 56; ((with_reducible refine (date_Weekday day hd0 hd1 _).mono ?_); rintro e w2 ⟨rfl, hb2⟩; obtain ⟨hc2, hf2⟩ := bcell hb2; have hz : w.heap.size < w2.heap.size := Nat.lt_of_lt_of_le hz hb2.size; have HB' := Aside0.mk (HB.out.trans (hb2.mono HB.out.size)); clear HB hb2; have HB := HB'; clear HB'))
      | (go_at_call 57; ((with_reducible refine (contains_int A4 c4 l4 _ _ (Kd.C_below HR4.out HB.out) hc4 hl4).mono ?_); rintro e w2 ⟨rfl, hb2⟩; obtain ⟨hc2, hf2⟩ := bcell hb2; have hz : w.heap.size < w2.heap.size := Nat.lt_of_lt_of_le hz hb2.size; have HB' := Aside0.mk (HB.out.trans (hb2.mono HB.out.size)); clear HB hb2; have HB := HB'; clear HB'))
      | (go_at_call 58; ((with_reducible refine (rule_on a0 a1 a2 a3 A4 A5 A6 c4 c5 c6 l4 l5 l6 _ _ (Kd.C_below HR4.out HB.out) hc4 (Kd.C_below HR5.out HB.out) hc5 (Kd.C_below HR6.out HB.out) hc6 hl6).mono ?_); rintro e w2 ⟨rfl, hb2⟩; obtain ⟨hc2, hf2⟩ := bcell hb2; have hz : w.heap.size < w2.heap.size := Nat.lt_of_lt_of_le hz hb2.size; have HB' := Aside0.mk (HB.out.trans (hb2.mono HB.out.size)); clear HB hb2; have HB := HB'; clear HB'))
      | (go_at_call 59; ((with_reducible refine (recur_may a0 a1 a2 a3 A4 A5 A6 c4 c5 c6 l4 l5 l6 y d _ d0 m _ (Kd.C_below HR5.out HB.out) hc5 (Kd.C_below HR6.out HB.out) hc6 hl5 hl6 v1 v2 (by omega) (by omega) v5 v6).mono ?_); rintro e w2 ⟨rfl, hb2⟩; obtain ⟨hc2, hf2⟩ := bcell hb2; have hz : w.heap.size < w2.heap.size := Nat.lt_of_lt_of_le hz hb2.size; have HB' := Aside0.mk (HB.out.trans (hb2.mono HB.out.size)); clear HB hb2; have HB := HB'; clear HB')))
  go_ret
  exact ⟨ret_bool HF.out.symm, HB.out⟩
set_option maxRecDepth 100000 in
set_option maxHeartbeats 4000000 in
theorem recur_match_month (a0 a1 a2 a3 : Int) (A4 A5 A6 : Option Addr) (c4 c5 c6 : Nat) (l4 l5 : List Int) (l6 : List S59) (first day y d y0 d0 : Int) (m m0 : Nat) (w : World)
    (hr4 : Kd.C (Kd.int .i64) w A4 l4.length l4) (hc4 : l4.length ≤ c4) (hr5 : Kd.C (Kd.int .i64) w A5 l5.length l5) (hc5 : l5.length ≤ c5) (hr6 : Kd.C k59 w A6 l6.length l6) (hc6 : l6.length ≤ c6)
    (hl4 : l4.length ≤ 1000000000) (hl5 : l5.length ≤ 1000000000) (hl6 : l6.length ≤ 1000000000)
    (hi0 : 1 ≤ a1) (hi1 : a1 ≤ 1000) (hf0 : 0 ≤ first) (hf1 : first ≤ 2932896) (hd0 : 0 ≤ day) (hd1 : day ≤ 2932896) (hcf : Cal.IsCivil first y0 m0 d0) (hcd : Cal.IsCivil day y m d) (hge : first ≤ day) (e4 : l4 ≠ []) (k4 : hasI l4 m = false) :
    Calls Tryz.prog 27 #[.agg #[.int .i64 a0, .int .i64 a1, .int .i64 a2, .int .i64 a3, .slice A4 l4.length c4, .slice A5 l5.length c5, .slice A6 l6.length c6], .int .i64 first, .int .i64 day] w fun e w' =>
      e = .returned (.bool (matchS a0 a1 l4 l5 l6 first day y m d y0 m0 d0)) ∧ Below w.heap.size w w' := by
  have hfin : matchS a0 a1 l4 l5 l6 first day y m d y0 m0 d0 = false := by
    unfold matchS
    rw [if_neg (by omega), if_pos ⟨e4, k4⟩]
  have HF := Lib.hid hfin
  clear hfin
  have p4 : 0 < l4.length := List.length_pos_iff.mpr e4
  have HR4 := Aside0.mk hr4
  have HR5 := Aside0.mk hr5
  have HR6 := Aside0.mk hr6
  have HCF := Aside0.mk hcf
  have HCD := Aside0.mk hcd
  clear hr4 hr5 hr6
  obtain ⟨u1, u2, u3, u4, u5, u6, -⟩ := hcf
  obtain ⟨v1, v2, v3, v4, v5, v6, -⟩ := hcd
  have mlF := mlen_le31 y0 m0
  have mlD := mlen_le31 y m
  have HB := Aside0.mk ((Below.refl w.heap.size w).alloc (Nat.le_refl _) (.cells #[.int .i64 a0, .int .i64 a1, .int .i64 a2, .int .i64 a3, .slice A4 l4.length c4, .slice A5 l5.length c5, .slice A6 l6.length c6] 25))
  have hz : w.heap.size < (w.alloc (.cells #[.int .i64 a0, .int .i64 a1, .int .i64 a2, .int .i64 a3, .slice A4 l4.length c4, .slice A5 l5.length c5, .slice A6 l6.length c6] 25)).heap.size := by simp
  clear e4
  go_enter Tryz.func27, Tryz.ntmps27
  go_wp2_with (first
      | (go_at_call 55; ((with_reducible refine (when_Civil_at hf0 hf1 HCF.out _).mono ?_); rintro e w2 ⟨rfl, hb2⟩; obtain ⟨hc2, hf2⟩ := bcell hb2; have hz : w.heap.size < w2.heap.size := Nat.lt_of_lt_of_le hz hb2.size; have HB' := Aside0.mk (HB.out.trans (hb2.mono HB.out.size)); clear HB hb2; have HB := HB'; clear HB'))
      | (go_at_call 55; ((with_reducible refine (when_Civil_at hd0 hd1 HCD.out _).mono ?_); rintro e w2 ⟨rfl, hb2⟩; obtain ⟨hc2, hf2⟩ := bcell hb2; have hz : w.heap.size < w2.heap.size := Nat.lt_of_lt_of_le hz hb2.size; have HB' := Aside0.mk (HB.out.trans (hb2.mono HB.out.size)); clear HB hb2; have HB := HB'; clear HB'))
      | (go_at_call 56; ((with_reducible refine (date_Weekday first hf0 hf1 _).mono ?_); rintro e w2 ⟨rfl, hb2⟩; obtain ⟨hc2, hf2⟩ := bcell hb2; have hz : w.heap.size < w2.heap.size := Nat.lt_of_lt_of_le hz hb2.size; have HB' := Aside0.mk (HB.out.trans (hb2.mono HB.out.size)); clear HB hb2; have HB := HB'; clear HB'))
      | (go_at_call 56; ((with_reducible refine (date_Weekday day hd0 hd1 _).mono ?_); rintro e w2 ⟨rfl, hb2⟩; obtain ⟨hc2, hf2⟩ := bcell hb2; have hz : w.heap.size < w2.heap.size := Nat.lt_of_lt_of_le hz hb2.size; have HB' := Aside0.mk (HB.out.trans (hb2.mono HB.out.size)); clear HB hb2; have HB := HB'; clear HB'))
      | (go_at_call 57; ((with_reducible refine (contains_int A4 c4 l4 _ _ (Kd.C_below HR4.out HB.out) hc4 hl4).mono ?_); rintro e w2 ⟨rfl, hb2⟩; obtain ⟨hc2, hf2⟩ := bcell hb2; have hz : w.heap.size < w2.heap.size := Nat.lt_of_lt_of_le hz hb2.size; have HB' := Aside0.mk (HB.out.trans (hb2.mono HB.out.size)); clear HB hb2; have HB := HB'; clear HB'))
      | (go_at_call 58; ((with_reducible refine (rule_on a0 a1 a2 a3 A4 A5 A6 c4 c5 c6 l4 l5 l6 _ _ (Kd.C_below HR4.out HB.out) hc4 (Kd.C_below HR5.out HB.out) hc5 (Kd.C_below HR6.out HB.out) hc6 hl6).mono ?_); rintro e w2 ⟨rfl, hb2⟩; obtain ⟨hc2, hf2⟩ := bcell hb2; have hz : w.heap.size < w2.heap.size := Nat.lt_of_lt_of_le hz hb2.size; have HB' := Aside0.mk (HB.out.trans (hb2.mono HB.out.size)); clear HB hb2; have HB := HB'; clear HB'))
      | (go_at_call 59; ((with_reducible refine (recur_may a0 a1 a2 a3 A4 A5 A6 c4 c5 c6 l4 l5 l6 y d _ d0 m _ (Kd.C_below HR5.out HB.out) hc5 (Kd.C_below HR6.out HB.out) hc6 hl5 hl6 v1 v2 (by omega) (by omega) v5 v6).mono ?_); rintro e w2 ⟨rfl, hb2⟩; obtain ⟨hc2, hf2⟩ := bcell hb2; have hz : w.heap.size < w2.heap.size := Nat.lt_of_lt_of_le hz hb2.size; have HB' := Aside0.mk (HB.out.trans (hb2.mono HB.out.size)); clear HB hb2; have HB := HB'; clear HB')))
  go_ret
  exact ⟨ret_bool HF.out.symm, HB.out⟩
set_option maxRecDepth 100000 in
set_option maxHeartbeats 4000000 in
theorem recur_match_f1aE (a0 a1 a2 a3 : Int) (A4 A5 A6 : Option Addr) (c4 c5 c6 : Nat) (l4 l5 : List Int) (l6 : List S59) (first day y d y0 d0 : Int) (m m0 : Nat) (w : World)
    (hr4 : Kd.C (Kd.int .i64) w A4 l4.length l4) (hc4 : l4.length ≤ c4) (hr5 : Kd.C (Kd.int .i64) w A5 l5.length l5) (hc5 : l5.length ≤ c5) (hr6 : Kd.C k59 w A6 l6.length l6) (hc6 : l6.length ≤ c6)
    (hl4 : l4.length ≤ 1000000000) (hl5 : l5.length ≤ 1000000000) (hl6 : l6.length ≤ 1000000000)
    (hi0 : 1 ≤ a1) (hi1 : a1 ≤ 1000) (hf0 : 0 ≤ first) (hf1 : first ≤ 2932896) (hd0 : 0 ≤ day) (hd1 : day ≤ 2932896) (hcf : Cal.IsCivil first y0 m0 d0) (hcd : Cal.IsCivil day y m d) (hge : first ≤ day) (e4 : l4 = []) (ef : a0 = 1) (hr : ((day - first) % a1 == 0) = true) :
    Calls Tryz.prog 27 #[.agg #[.int .i64 a0, .int .i64 a1, .int .i64 a2, .int .i64 a3, .slice A4 l4.length c4, .slice A5 l5.length c5, .slice A6 l6.length c6], .int .i64 first, .int .i64 day] w fun e w' =>
      e = .returned (.bool (matchS a0 a1 l4 l5 l6 first day y m d y0 m0 d0)) ∧ Below w.heap.size w w' := by
  have hfin : matchS a0 a1 l4 l5 l6 first day y m d y0 m0 d0 = onS l6 ((day + 3) % 7) := by
    unfold matchS
    rw [if_neg (by omega), if_neg (fun h => h.1 e4), if_pos ef, hr, Bool.true_and]
  have HF := Lib.hid hfin
  clear hfin
  have z4 : decide (0 < l4.length) = false := by rw [e4]; rfl
  have g1 : (a0 == 1) = true := by rw [ef]; rfl
  clear ef
  have HR4 := Aside0.mk hr4
  have HR5 := Aside0.mk hr5
  have HR6 := Aside0.mk hr6
  have HCF := Aside0.mk hcf
  have HCD := Aside0.mk hcd
  clear hr4 hr5 hr6
  obtain ⟨u1, u2, u3, u4, u5, u6, -⟩ := hcf
  obtain ⟨v1, v2, v3, v4, v5, v6, -⟩ := hcd
  have mlF := mlen_le31 y0 m0
  have mlD := mlen_le31 y m
  have HB := Aside0.mk ((Below.refl w.heap.size w).alloc (Nat.le_refl _) (.cells #[.int .i64 a0, .int .i64 a1, .int .i64 a2, .int .i64 a3, .slice A4 l4.length c4, .slice A5 l5.length c5, .slice A6 l6.length c6] 25))
  have hz : w.heap.size < (w.alloc (.cells #[.int .i64 a0, .int .i64 a1, .int .i64 a2, .int .i64 a3, .slice A4 l4.length c4, .slice A5 l5.length c5, .slice A6 l6.length c6] 25)).heap.size := by simp
  clear e4
  go_enter Tryz.func27, Tryz.ntmps27
  go_wp2_with (first
      | (go_at_call 55; ((with_reducible refine (when_Civil_at hf0 hf1 HCF.out _).mono ?_); rintro e w2 ⟨rfl, hb2⟩; obtain ⟨hc2, hf2⟩ := bcell hb2; have hz : w.heap.size < w2.heap.size := Nat.lt_of_lt_of_le hz hb2.size; have HB' := Aside0.mk (HB.out.trans (hb2.mono HB.out.size)); clear HB hb2; have HB := HB'; clear HB'))
      | (go_at_call 55; ((with_reducible refine (when_Civil_at hd0 hd1 HCD.out _).mono ?_); rintro e w2 ⟨rfl, hb2⟩; obtain ⟨hc2, hf2⟩ := bcell hb2; have hz : w.heap.size < w2.heap.size := Nat.lt_of_lt_of_le hz hb2.size; have HB' := Aside0.mk (HB.out.trans (hb2.mono HB.out.size)); clear HB hb2; have HB := HB'; clear HB'))
      | (go_at_call 56; ((with_reducible refine (date_Weekday first hf0 hf1 _).mono ?_); rintro e w2 ⟨rfl, hb2⟩; obtain ⟨hc2, hf2⟩ := bcell hb2; have hz : w.heap.size < w2.heap.size := Nat.lt_of_lt_of_le hz hb2.size; have HB' := Aside0.mk (HB.out.trans (hb2.mono HB.out.size)); clear HB hb2; have HB := HB'; clear HB'))
      | (go_at_call 56; ((with_reducible refine (date_Weekday day hd0 hd1 _).mono ?_); rintro e w2 ⟨rfl, hb2⟩; obtain ⟨hc2, hf2⟩ := bcell hb2; have hz : w.heap.size < w2.heap.size := Nat.lt_of_lt_of_le hz hb2.size; have HB' := Aside0.mk (HB.out.trans (hb2.mono HB.out.size)); clear HB hb2; have HB := HB'; clear HB'))
      | (go_at_call 57; ((with_reducible refine (contains_int A4 c4 l4 _ _ (Kd.C_below HR4.out HB.out) hc4 hl4).mono ?_); rintro e w2 ⟨rfl, hb2⟩; obtain ⟨hc2, hf2⟩ := bcell hb2; have hz : w.heap.size < w2.heap.size := Nat.lt_of_lt_of_le hz hb2.size; have HB' := Aside0.mk (HB.out.trans (hb2.mono HB.out.size)); clear HB hb2; have HB := HB'; clear HB'))
      | (go_at_call 58; ((with_reducible refine (rule_on a0 a1 a2 a3 A4 A5 A6 c4 c5 c6 l4 l5 l6 _ _ (Kd.C_below HR4.out HB.out) hc4 (Kd.C_below HR5.out HB.out) hc5 (Kd.C_below HR6.out HB.out) hc6 hl6).mono ?_); rintro e w2 ⟨rfl, hb2⟩; obtain ⟨hc2, hf2⟩ := bcell hb2; have hz : w.heap.size < w2.heap.size := Nat.lt_of_lt_of_le hz hb2.size; have HB' := Aside0.mk (HB.out.trans (hb2.mono HB.out.size)); clear HB hb2; have HB := HB'; clear HB'))
      | (go_at_call 59; ((with_reducible refine (recur_may a0 a1 a2 a3 A4 A5 A6 c4 c5 c6 l4 l5 l6 y d _ d0 m _ (Kd.C_below HR5.out HB.out) hc5 (Kd.C_below HR6.out HB.out) hc6 hl5 hl6 v1 v2 (by omega) (by omega) v5 v6).mono ?_); rintro e w2 ⟨rfl, hb2⟩; obtain ⟨hc2, hf2⟩ := bcell hb2; have hz : w.heap.size < w2.heap.size := Nat.lt_of_lt_of_le hz hb2.size; have HB' := Aside0.mk (HB.out.trans (hb2.mono HB.out.size)); clear HB hb2; have HB := HB'; clear HB')))
  go_ret
  exact ⟨ret_bool HF.out.symm, HB.out⟩
set_option maxRecDepth 100000 in
set_option maxHeartbeats 4000000 in
theorem recur_match_f1bE (a0 a1 a2 a3 : Int) (A4 A5 A6 : Option Addr) (c4 c5 c6 : Nat) (l4 l5 : List Int) (l6 : List S59) (first day y d y0 d0 : Int) (m m0 : Nat) (w : World)
    (hr4 : Kd.C (Kd.int .i64) w A4 l4.length l4) (hc4 : l4.length ≤ c4) (hr5 : Kd.C (Kd.int .i64) w A5 l5.length l5) (hc5 : l5.length ≤ c5) (hr6 : Kd.C k59 w A6 l6.length l6) (hc6 : l6.length ≤ c6)
    (hl4 : l4.length ≤ 1000000000) (hl5 : l5.length ≤ 1000000000) (hl6 : l6.length ≤ 1000000000)
    (hi0 : 1 ≤ a1) (hi1 : a1 ≤ 1000) (hf0 : 0 ≤ first) (hf1 : first ≤ 2932896) (hd0 : 0 ≤ day) (hd1 : day ≤ 2932896) (hcf : Cal.IsCivil first y0 m0 d0) (hcd : Cal.IsCivil day y m d) (hge : first ≤ day) (e4 : l4 = []) (ef : a0 = 1) (hr : ((day - first) % a1 == 0) = false) :
    Calls Tryz.prog 27 #[.agg #[.int .i64 a0, .int .i64 a1, .int .i64 a2, .int .i64 a3, .slice A4 l4.length c4, .slice A5 l5.length c5, .slice A6 l6.length c6], .int .i64 first, .int .i64 day] w fun e w' =>
      e = .returned (.bool (matchS a0 a1 l4 l5 l6 first day y m d y0 m0 d0)) ∧ Below w.heap.size w w' := by
  have hfin : matchS a0 a1 l4 l5 l6 first day y m d y0 m0 d0 = false := by
    unfold matchS
    rw [if_neg (by omega), if_neg (fun h => h.1 e4), if_pos ef, hr, Bool.false_and]
  have HF := Lib.hid hfin
  clear hfin
  have z4 : decide (0 < l4.length) = false := by rw [e4]; rfl
  have g1 : (a0 == 1) = true := by rw [ef]; rfl
  clear ef
  have HR4 := Aside0.mk hr4
  have HR5 := Aside0.mk hr5
  have HR6 := Aside0.mk hr6
  have HCF := Aside0.mk hcf
  have HCD := Aside0.mk hcd
  clear hr4 hr5 hr6
  obtain ⟨u1, u2, u3, u4, u5, u6, -⟩ := hcf
  obtain ⟨v1, v2, v3, v4, v5, v6, -⟩ := hcd
  have mlF := mlen_le31 y0 m0
  have mlD := mlen_le31 y m
  have HB := Aside0.mk ((Below.refl w.heap.size w).alloc (Nat.le_refl _) (.cells #[.int .i64 a0, .int .i64 a1, .int .i64 a2, .int .i64 a3, .slice A4 l4.length c4, .slice A5 l5.length c5, .slice A6 l6.length c6] 25))
  have hz : w.heap.size < (w.alloc (.cells #[.int .i64 a0, .int .i64 a1, .int .i64 a2, .int .i64 a3, .slice A4 l4.length c4, .slice A5 l5.length c5, .slice A6 l6.length c6] 25)).heap.size := by simp
  clear e4
  go_enter Tryz.func27, Tryz.ntmps27
  go_wp2_with (first
      | (go_at_call 55; ((with_reducible refine (when_Civil_at hf0 hf1 HCF.out _).mono ?_); rintro e w2 ⟨rfl, hb2⟩; obtain ⟨hc2, hf2⟩ := bcell hb2; have hz : w.heap.size < w2.heap.size := Nat.lt_of_lt_of_le hz hb2.size; have HB' := Aside0.mk (HB.out.trans (hb2.mono HB.out.size)); clear HB hb2; have HB := HB'; clear HB'))
      | (go_at_call 55; ((with_reducible refine (when_Civil_at hd0 hd1 HCD.out _).mono ?_); rintro e w2 ⟨rfl, hb2⟩; obtain ⟨hc2, hf2⟩ := bcell hb2; have hz : w.heap.size < w2.heap.size := Nat.lt_of_lt_of_le hz hb2.size; have HB' := Aside0.mk (HB.out.trans (hb2.mono HB.out.size)); clear HB hb2; have HB := HB'; clear HB'))
      | (go_at_call 56; ((with_reducible refine (date_Weekday first hf0 hf1 _).mono ?_); rintro e w2 ⟨rfl, hb2⟩; obtain ⟨hc2, hf2⟩ := bcell hb2; have hz : w.heap.size < w2.heap.size := Nat.lt_of_lt_of_le hz hb2.size; have HB' := Aside0.mk (HB.out.trans (hb2.mono HB.out.size)); clear HB hb2; have HB := HB'; clear HB'))
      | (go_at_call 56; ((with_reducible refine (date_Weekday day hd0 hd1 _).mono ?_); rintro e w2 ⟨rfl, hb2⟩; obtain ⟨hc2, hf2⟩ := bcell hb2; have hz : w.heap.size < w2.heap.size := Nat.lt_of_lt_of_le hz hb2.size; have HB' := Aside0.mk (HB.out.trans (hb2.mono HB.out.size)); clear HB hb2; have HB := HB'; clear HB'))
      | (go_at_call 57; ((with_reducible refine (contains_int A4 c4 l4 _ _ (Kd.C_below HR4.out HB.out) hc4 hl4).mono ?_); rintro e w2 ⟨rfl, hb2⟩; obtain ⟨hc2, hf2⟩ := bcell hb2; have hz : w.heap.size < w2.heap.size := Nat.lt_of_lt_of_le hz hb2.size; have HB' := Aside0.mk (HB.out.trans (hb2.mono HB.out.size)); clear HB hb2; have HB := HB'; clear HB'))
      | (go_at_call 58; ((with_reducible refine (rule_on a0 a1 a2 a3 A4 A5 A6 c4 c5 c6 l4 l5 l6 _ _ (Kd.C_below HR4.out HB.out) hc4 (Kd.C_below HR5.out HB.out) hc5 (Kd.C_below HR6.out HB.out) hc6 hl6).mono ?_); rintro e w2 ⟨rfl, hb2⟩; obtain ⟨hc2, hf2⟩ := bcell hb2; have hz : w.heap.size < w2.heap.size := Nat.lt_of_lt_of_le hz hb2.size; have HB' := Aside0.mk (HB.out.trans (hb2.mono HB.out.size)); clear HB hb2; have HB := HB'; clear HB'))
      | (go_at_call 59; ((with_reducible refine (recur_may a0 a1 a2 a3 A4 A5 A6 c4 c5 c6 l4 l5 l6 y d _ d0 m _ (Kd.C_below HR5.out HB.out) hc5 (Kd.C_below HR6.out HB.out) hc6 hl5 hl6 v1 v2 (by omega) (by omega) v5 v6).mono ?_); rintro e w2 ⟨rfl, hb2⟩; obtain ⟨hc2, hf2⟩ := bcell hb2; have hz : w.heap.size < w2.heap.size := Nat.lt_of_lt_of_le hz hb2.size; have HB' := Aside0.mk (HB.out.trans (hb2.mono HB.out.size)); clear HB hb2; have HB := HB'; clear HB')))
  go_ret
  exact ⟨ret_bool HF.out.symm, HB.out⟩
set_option maxRecDepth 100000 in
set_option maxHeartbeats 4000000 in
theorem recur_match_f2bE (a0 a1 a2 a3 : Int) (A4 A5 A6 : Option Addr) (c4 c5 c6 : Nat) (l4 l5 : List Int) (l6 : List S59) (first day y d y0 d0 : Int) (m m0 : Nat) (w : World)
    (hr4 : Kd.C (Kd.int .i64) w A4 l4.length l4) (hc4 : l4.length ≤ c4) (hr5 : Kd.C (Kd.int .i64) w A5 l5.length l5) (hc5 : l5.length ≤ c5) (hr6 : Kd.C k59 w A6 l6.length l6) (hc6 : l6.length ≤ c6)
    (hl4 : l4.length ≤ 1000000000) (hl5 : l5.length ≤ 1000000000) (hl6 : l6.length ≤ 1000000000)
    (hi0 : 1 ≤ a1) (hi1 : a1 ≤ 1000) (hf0 : 0 ≤ first) (hf1 : first ≤ 2932896) (hd0 : 0 ≤ day) (hd1 : day ≤ 2932896) (hcf : Cal.IsCivil first y0 m0 d0) (hcd : Cal.IsCivil day y m d) (hge : first ≤ day) (e4 : l4 = []) (ef : a0 = 2) (hr : ((day - (day + 3) % 7 - first + (first + 3) % 7) / 7 % a1 == 0) = false) :
    Calls Tryz.prog 27 #[.agg #[.int .i64 a0, .int .i64 a1, .int .i64 a2, .int .i64 a3, .slice A4 l4.length c4, .slice A5 l5.length c5, .slice A6 l6.length c6], .int .i64 first, .int .i64 day] w fun e w' =>
      e = .returned (.bool (matchS a0 a1 l4 l5 l6 first day y m d y0 m0 d0)) ∧ Below w.heap.size w w' := by
  have hfin : matchS a0 a1 l4 l5 l6 first day y m d y0 m0 d0 = false := by
    unfold matchS
    rw [if_neg (by omega), if_neg (fun h => h.1 e4), if_neg (by omega), if_pos ef, hr, Bool.false_and]
  have HF := Lib.hid hfin
  clear hfin
  have z4 : decide (0 < l4.length) = false := by rw [e4]; rfl
  have hwk : 0 ≤ day - (day + 3) % 7 - first + (first + 3) % 7 := by omega
  have g1 : (a0 == 1) = false := by rw [ef]; rfl
  have g2 : (a0 == 2) = true := by rw [ef]; rfl
  clear ef
  have HR4 := Aside0.mk hr4
  have HR5 := Aside0.mk hr5
  have HR6 := Aside0.mk hr6
  have HCF := Aside0.mk hcf
  have HCD := Aside0.mk hcd
  clear hr4 hr5 hr6
  obtain ⟨u1, u2, u3, u4, u5, u6, -⟩ := hcf
  obtain ⟨v1, v2, v3, v4, v5, v6, -⟩ := hcd
  have mlF := mlen_le31 y0 m0
  have mlD := mlen_le31 y m
  have HB := Aside0.mk ((Below.refl w.heap.size w).alloc (Nat.le_refl _) (.cells #[.int .i64 a0, .int .i64 a1, .int .i64 a2, .int .i64 a3, .slice A4 l4.length c4, .slice A5 l5.length c5, .slice A6 l6.length c6] 25))
  have hz : w.heap.size < (w.alloc (.cells #[.int .i64 a0, .int .i64 a1, .int .i64 a2, .int .i64 a3, .slice A4 l4.length c4, .slice A5 l5.length c5, .slice A6 l6.length c6] 25)).heap.size := by simp
  clear e4
  go_enter Tryz.func27, Tryz.ntmps27
  go_wp2_with (first
      | (go_at_call 55; ((with_reducible refine (when_Civil_at hf0 hf1 HCF.out _).mono ?_); rintro e w2 ⟨rfl, hb2⟩; obtain ⟨hc2, hf2⟩ := bcell hb2; have hz : w.heap.size < w2.heap.size := Nat.lt_of_lt_of_le hz hb2.size; have HB' := Aside0.mk (HB.out.trans (hb2.mono HB.out.size)); clear HB hb2; have HB := HB'; clear HB'))
      | (go_at_call 55; ((with_reducible refine (when_Civil_at hd0 hd1 HCD.out _).mono ?_); rintro e w2 ⟨rfl, hb2⟩; obtain ⟨hc2, hf2⟩ := bcell hb2; have hz : w.heap.size < w2.heap.size := Nat.lt_of_lt_of_le hz hb2.size; have HB' := Aside0.mk (HB.out.trans (hb2.mono HB.out.size)); clear HB hb2; have HB := HB'; clear HB'))
      | (go_at_call 56; ((with_reducible refine (date_Weekday first hf0 hf1 _).mono ?_); rintro e w2 ⟨rfl, hb2⟩; obtain ⟨hc2, hf2⟩ := bcell hb2; have hz : w.heap.size < w2.heap.size := Nat.lt_of_lt_of_le hz hb2.size; have HB' := Aside0.mk (HB.out.trans (hb2.mono HB.out.size)); clear HB hb2; have HB := HB'; clear HB'))
      | (go_at_call 56; ((with_reducible refine (date_Weekday day hd0 hd1 _).mono ?_); rintro e w2 ⟨rfl, hb2⟩; obtain ⟨hc2, hf2⟩ := bcell hb2; have hz : w.heap.size < w2.heap.size := Nat.lt_of_lt_of_le hz hb2.size; have HB' := Aside0.mk (HB.out.trans (hb2.mono HB.out.size)); clear HB hb2; have HB := HB'; clear HB'))
      | (go_at_call 57; ((with_reducible refine (contains_int A4 c4 l4 _ _ (Kd.C_below HR4.out HB.out) hc4 hl4).mono ?_); rintro e w2 ⟨rfl, hb2⟩; obtain ⟨hc2, hf2⟩ := bcell hb2; have hz : w.heap.size < w2.heap.size := Nat.lt_of_lt_of_le hz hb2.size; have HB' := Aside0.mk (HB.out.trans (hb2.mono HB.out.size)); clear HB hb2; have HB := HB'; clear HB'))
      | (go_at_call 58; ((with_reducible refine (rule_on a0 a1 a2 a3 A4 A5 A6 c4 c5 c6 l4 l5 l6 _ _ (Kd.C_below HR4.out HB.out) hc4 (Kd.C_below HR5.out HB.out) hc5 (Kd.C_below HR6.out HB.out) hc6 hl6).mono ?_); rintro e w2 ⟨rfl, hb2⟩; obtain ⟨hc2, hf2⟩ := bcell hb2; have hz : w.heap.size < w2.heap.size := Nat.lt_of_lt_of_le hz hb2.size; have HB' := Aside0.mk (HB.out.trans (hb2.mono HB.out.size)); clear HB hb2; have HB := HB'; clear HB'))
      | (go_at_call 59; ((with_reducible refine (recur_may a0 a1 a2 a3 A4 A5 A6 c4 c5 c6 l4 l5 l6 y d _ d0 m _ (Kd.C_below HR5.out HB.out) hc5 (Kd.C_below HR6.out HB.out) hc6 hl5 hl6 v1 v2 (by omega) (by omega) v5 v6).mono ?_); rintro e w2 ⟨rfl, hb2⟩; obtain ⟨hc2, hf2⟩ := bcell hb2; have hz : w.heap.size < w2.heap.size := Nat.lt_of_lt_of_le hz hb2.size; have HB' := Aside0.mk (HB.out.trans (hb2.mono HB.out.size)); clear HB hb2; have HB := HB'; clear HB')))
  go_ret
  exact ⟨ret_bool HF.out.symm, HB.out⟩
set_option maxRecDepth 100000 in
set_option maxHeartbeats 4000000 in
theorem recur_match_f2eE (a0 a1 a2 a3 : Int) (A4 A5 A6 : Option Addr) (c4 c5 c6 : Nat) (l4 l5 : List Int) (l6 : List S59) (first day y d y0 d0 : Int) (m m0 : Nat) (w : World)
    (hr4 : Kd.C (Kd.int .i64) w A4 l4.length l4) (hc4 : l4.length ≤ c4) (hr5 : Kd.C (Kd.int .i64) w A5 l5.length l5) (hc5 : l5.length ≤ c5) (hr6 : Kd.C k59 w A6 l6.length l6) (hc6 : l6.length ≤ c6)
    (hl4 : l4.length ≤ 1000000000) (hl5 : l5.length ≤ 1000000000) (hl6 : l6.length ≤ 1000000000)
    (hi0 : 1 ≤ a1) (hi1 : a1 ≤ 1000) (hf0 : 0 ≤ first) (hf1 : first ≤ 2932896) (hd0 : 0 ≤ day) (hd1 : day ≤ 2932896) (hcf : Cal.IsCivil first y0 m0 d0) (hcd : Cal.IsCivil day y m d) (hge : first ≤ day) (e4 : l4 = []) (ef : a0 = 2) (hr : ((day - (day + 3) % 7 - first + (first + 3) % 7) / 7 % a1 == 0) = true) (e6 : l6 = []) :
    Calls Tryz.prog 27 #[.agg #[.int .i64 a0, .int .i64 a1, .int .i64 a2, .int .i64 a3, .slice A4 l4.length c4, .slice A5 l5.length c5, .slice A6 l6.length c6], .int .i64 first, .int .i64 day] w fun e w' =>
      e = .returned (.bool (matchS a0 a1 l4 l5 l6 first day y m d y0 m0 d0)) ∧ Below w.heap.size w w' := by
  have hfin : matchS a0 a1 l4 l5 l6 first day y m d y0 m0 d0 = ((day + 3) % 7 == (first + 3) % 7) := by
    unfold matchS
    rw [if_neg (by omega), if_neg (fun h => h.1 e4), if_neg (by omega), if_pos ef, hr, Bool.true_and, if_pos e6]
  have HF := Lib.hid hfin
  clear hfin
  have z4 : decide (0 < l4.length) = false := by rw [e4]; rfl
  have hwk : 0 ≤ day - (day + 3) % 7 - first + (first + 3) % 7 := by omega
  have g1 : (a0 == 1) = false := by rw [ef]; rfl
  have g2 : (a0 == 2) = true := by rw [ef]; rfl
  clear ef
  have y6 : ((l6.length : Int) == 0) = true := by rw [e6]; rfl
  have x6 : decide (0 < l6.length) = false := by rw [e6]; rfl
  clear e6
  have HR4 := Aside0.mk hr4
  have HR5 := Aside0.mk hr5
  have HR6 := Aside0.mk hr6
  have HCF := Aside0.mk hcf
  have HCD := Aside0.mk hcd
  clear hr4 hr5 hr6
  obtain ⟨u1, u2, u3, u4, u5, u6, -⟩ := hcf
  obtain ⟨v1, v2, v3, v4, v5, v6, -⟩ := hcd
  have mlF := mlen_le31 y0 m0
  have mlD := mlen_le31 y m
  have HB := Aside0.mk ((Below.refl w.heap.size w).alloc (Nat.le_refl _) (.cells #[.int .i64 a0, .int .i64 a1, .int .i64 a2, .int .i64 a3, .slice A4 l4.length c4, .slice A5 l5.length c5, .slice A6 l6.length c6] 25))
  have hz : w.heap.size < (w.alloc (.cells #[.int .i64 a0, .int .i64 a1, .int .i64 a2, .int .i64 a3, .slice A4 l4.length c4, .slice A5 l5.length c5, .slice A6 l6.length c6] 25)).heap.size := by simp
  clear e4
  go_enter Tryz.func27, Tryz.ntmps27
  go_wp2_with (first
      | (go_at_call 55; ((with_reducible refine (when_Civil_at hf0 hf1 HCF.out _).mono ?_); rintro e w2 ⟨rfl, hb2⟩; obtain ⟨hc2, hf2⟩ := bcell hb2; have hz : w.heap.size < w2.heap.size := Nat.lt_of_lt_of_le hz hb2.size; have HB' := Aside0.mk (HB.out.trans (hb2.mono HB.out.size)); clear HB hb2; have HB := HB'; clear HB'))
      | (go_at_call 55; ((with_reducible refine (when_Civil_at hd0 hd1 HCD.out _).mono ?_); rintro e w2 ⟨rfl, hb2⟩; obtain ⟨hc2, hf2⟩ := bcell hb2; have hz : w.heap.size < w2.heap.size := Nat.lt_of_lt_of_le hz hb2.size; have HB' := Aside0.mk (HB.out.trans (hb2.mono HB.out.size)); clear HB hb2; have HB := HB'; clear HB'))
      | (go_at_call 56; ((with_reducible refine (date_Weekday first hf0 hf1 _).mono ?_); rintro e w2 ⟨rfl, hb2⟩; obtain ⟨hc2, hf2⟩ := bcell hb2; have hz : w.heap.size < w2.heap.size := Nat.lt_of_lt_of_le hz hb2.size; have HB' := Aside0.mk (HB.out.trans (hb2.mono HB.out.size)); clear HB hb2; have HB := HB'; clear HB'))
      | (go_at_call 56; ((with_reducible refine (date_Weekday day hd0 hd1 _).mono ?_); rintro e w2 ⟨rfl, hb2⟩; obtain ⟨hc2, hf2⟩ := bcell hb2; have hz : w.heap.size < w2.heap.size := Nat.lt_of_lt_of_le hz hb2.size; have HB' := Aside0.mk (HB.out.trans (hb2.mono HB.out.size)); clear HB hb2; have HB := HB'; clear HB'))
      | (go_at_call 57; ((with_reducible refine (contains_int A4 c4 l4 _ _ (Kd.C_below HR4.out HB.out) hc4 hl4).mono ?_); rintro e w2 ⟨rfl, hb2⟩; obtain ⟨hc2, hf2⟩ := bcell hb2; have hz : w.heap.size < w2.heap.size := Nat.lt_of_lt_of_le hz hb2.size; have HB' := Aside0.mk (HB.out.trans (hb2.mono HB.out.size)); clear HB hb2; have HB := HB'; clear HB'))
      | (go_at_call 58; ((with_reducible refine (rule_on a0 a1 a2 a3 A4 A5 A6 c4 c5 c6 l4 l5 l6 _ _ (Kd.C_below HR4.out HB.out) hc4 (Kd.C_below HR5.out HB.out) hc5 (Kd.C_below HR6.out HB.out) hc6 hl6).mono ?_); rintro e w2 ⟨rfl, hb2⟩; obtain ⟨hc2, hf2⟩ := bcell hb2; have hz : w.heap.size < w2.heap.size := Nat.lt_of_lt_of_le hz hb2.size; have HB' := Aside0.mk (HB.out.trans (hb2.mono HB.out.size)); clear HB hb2; have HB := HB'; clear HB'))
      | (go_at_call 59; ((with_reducible refine (recur_may a0 a1 a2 a3 A4 A5 A6 c4 c5 c6 l4 l5 l6 y d _ d0 m _ (Kd.C_below HR5.out HB.out) hc5 (Kd.C_below HR6.out HB.out) hc6 hl5 hl6 v1 v2 (by omega) (by omega) v5 v6).mono ?_); rintro e w2 ⟨rfl, hb2⟩; obtain ⟨hc2, hf2⟩ := bcell hb2; have hz : w.heap.size < w2.heap.size := Nat.lt_of_lt_of_le hz hb2.size; have HB' := Aside0.mk (HB.out.trans (hb2.mono HB.out.size)); clear HB hb2; have HB := HB'; clear HB')))
  go_ret
  exact ⟨ret_bool HF.out.symm, HB.out⟩
set_option maxRecDepth 100000 in
set_option maxHeartbeats 4000000 in
theorem recur_match_f2tE (a0 a1 a2 a3 : Int) (A4 A5 A6 : Option Addr) (c4 c5 c6 : Nat) (l4 l5 : List Int) (l6 : List S59) (first day y d y0 d0 : Int) (m m0 : Nat) (w : World)
    (hr4 : Kd.C (Kd.int .i64) w A4 l4.length l4) (hc4 : l4.length ≤ c4) (hr5 : Kd.C (Kd.int .i64) w A5 l5.length l5) (hc5 : l5.length ≤ c5) (hr6 : Kd.C k59 w A6 l6.length l6) (hc6 : l6.length ≤ c6)
    (hl4 : l4.length ≤ 1000000000) (hl5 : l5.length ≤ 1000000000) (hl6 : l6.length ≤ 1000000000)
    (hi0 : 1 ≤ a1) (hi1 : a1 ≤ 1000) (hf0 : 0 ≤ first) (hf1 : first ≤ 2932896) (hd0 : 0 ≤ day) (hd1 : day ≤ 2932896) (hcf : Cal.IsCivil first y0 m0 d0) (hcd : Cal.IsCivil day y m d) (hge : first ≤ day) (e4 : l4 = []) (ef : a0 = 2) (hr : ((day - (day + 3) % 7 - first + (first + 3) % 7) / 7 % a1 == 0) = true) (e6 : l6 ≠ []) (ho : onS l6 ((day + 3) % 7) = true) :
    Calls Tryz.prog 27 #[.agg #[.int .i64 a0, .int .i64 a1, .int .i64 a2, .int .i64 a3, .slice A4 l4.length c4, .slice A5 l5.length c5, .slice A6 l6.length c6], .int .i64 first, .int .i64 day] w fun e w' =>
      e = .returned (.bool (matchS a0 a1 l4 l5 l6 first day y m d y0 m0 d0)) ∧ Below w.heap.size w w' := by
  have hfin : matchS a0 a1 l4 l5 l6 first day y m d y0 m0 d0 = true := by
    unfold matchS
    rw [if_neg (by omega), if_neg (fun h => h.1 e4), if_neg (by omega), if_pos ef, hr, Bool.true_and, if_neg e6, ho]
  have HF := Lib.hid hfin
  clear hfin
  have z4 : decide (0 < l4.length) = false := by rw [e4]; rfl
  have hwk : 0 ≤ day - (day + 3) % 7 - first + (first + 3) % 7 := by omega
  have g1 : (a0 == 1) = false := by rw [ef]; rfl
  have g2 : (a0 == 2) = true := by rw [ef]; rfl
  clear ef
  have p6 : 0 < l6.length := List.length_pos_iff.mpr e6
  have z6 : ((l6.length : Int) == 0) = false := by rw [beq_eq_false_iff_ne]; omega
  have HR4 := Aside0.mk hr4
  have HR5 := Aside0.mk hr5
  have HR6 := Aside0.mk hr6
  have HCF := Aside0.mk hcf
  have HCD := Aside0.mk hcd
  clear hr4 hr5 hr6
  obtain ⟨u1, u2, u3, u4, u5, u6, -⟩ := hcf
  obtain ⟨v1, v2, v3, v4, v5, v6, -⟩ := hcd
  have mlF := mlen_le31 y0 m0
  have mlD := mlen_le31 y m
  have HB := Aside0.mk ((Below.refl w.heap.size w).alloc (Nat.le_refl _) (.cells #[.int .i64 a0, .int .i64 a1, .int .i64 a2, .int .i64 a3, .slice A4 l4.length c4, .slice A5 l5.length c5, .slice A6 l6.length c6] 25))
  have hz : w.heap.size < (w.alloc (.cells #[.int .i64 a0, .int .i64 a1, .int .i64 a2, .int .i64 a3, .slice A4 l4.length c4, .slice A5 l5.length c5, .slice A6 l6.length c6] 25)).heap.size := by simp
  clear e4 e6
  go_enter Tryz.func27, Tryz.ntmps27
  go_wp2_with (first
      | (go_at_call 55; ((with_reducible refine (when_Civil_at hf0 hf1 HCF.out _).mono ?_); rintro e w2 ⟨rfl, hb2⟩; obtain ⟨hc2, hf2⟩ := bcell hb2; have hz : w.heap.size < w2.heap.size := Nat.lt_of_lt_of_le hz hb2.size; have HB' := Aside0.mk (HB.out.trans (hb2.mono HB.out.size)); clear HB hb2; have HB := HB'; clear HB'))
      | (go_at_call 55; ((with_reducible refine (when_Civil_at hd0 hd1 HCD.out _).mono ?_); rintro e w2 ⟨rfl, hb2⟩; obtain ⟨hc2, hf2⟩ := bcell hb2; have hz : w.heap.size < w2.heap.size := Nat.lt_of_lt_of_le hz hb2.size; have HB' := Aside0.mk (HB.out.trans (hb2.mono HB.out.size)); clear HB hb2; have HB := HB'; clear HB'))
      | (go_at_call 56; ((with_reducible refine (date_Weekday first hf0 hf1 _).mono ?_); rintro e w2 ⟨rfl, hb2⟩; obtain ⟨hc2, hf2⟩ := bcell hb2; have hz : w.heap.size < w2.heap.size := Nat.lt_of_lt_of_le hz hb2.size; have HB' := Aside0.mk (HB.out.trans (hb2.mono HB.out.size)); clear HB hb2; have HB := HB'; clear HB'))
      | (go_at_call 56; ((with_reducible refine (date_Weekday day hd0 hd1 _).mono ?_); rintro e w2 ⟨rfl, hb2⟩; obtain ⟨hc2, hf2⟩ := bcell hb2; have hz : w.heap.size < w2.heap.size := Nat.lt_of_lt_of_le hz hb2.size; have HB' := Aside0.mk (HB.out.trans (hb2.mono HB.out.size)); clear HB hb2; have HB := HB'; clear HB'))
      | (go_at_call 57; ((with_reducible refine (contains_int A4 c4 l4 _ _ (Kd.C_below HR4.out HB.out) hc4 hl4).mono ?_); rintro e w2 ⟨rfl, hb2⟩; obtain ⟨hc2, hf2⟩ := bcell hb2; have hz : w.heap.size < w2.heap.size := Nat.lt_of_lt_of_le hz hb2.size; have HB' := Aside0.mk (HB.out.trans (hb2.mono HB.out.size)); clear HB hb2; have HB := HB'; clear HB'))
      | (go_at_call 58; ((with_reducible refine (rule_on a0 a1 a2 a3 A4 A5 A6 c4 c5 c6 l4 l5 l6 _ _ (Kd.C_below HR4.out HB.out) hc4 (Kd.C_below HR5.out HB.out) hc5 (Kd.C_below HR6.out HB.out) hc6 hl6).mono ?_); rintro e w2 ⟨rfl, hb2⟩; obtain ⟨hc2, hf2⟩ := bcell hb2; have hz : w.heap.size < w2.heap.size := Nat.lt_of_lt_of_le hz hb2.size; have HB' := Aside0.mk (HB.out.trans (hb2.mono HB.out.size)); clear HB hb2; have HB := HB'; clear HB'))
      | (go_at_call 59; ((with_reducible refine (recur_may a0 a1 a2 a3 A4 A5 A6 c4 c5 c6 l4 l5 l6 y d _ d0 m _ (Kd.C_below HR5.out HB.out) hc5 (Kd.C_below HR6.out HB.out) hc6 hl5 hl6 v1 v2 (by omega) (by omega) v5 v6).mono ?_); rintro e w2 ⟨rfl, hb2⟩; obtain ⟨hc2, hf2⟩ := bcell hb2; have hz : w.heap.size < w2.heap.size := Nat.lt_of_lt_of_le hz hb2.size; have HB' := Aside0.mk (HB.out.trans (hb2.mono HB.out.size)); clear HB hb2; have HB := HB'; clear HB')))
  go_ret
  exact ⟨ret_bool HF.out.symm, HB.out⟩
set_option maxRecDepth 100000 in
set_option maxHeartbeats 4000000 in
theorem recur_match_f2fE (a0 a1 a2 a3 : Int) (A4 A5 A6 : Option Addr) (c4 c5 c6 : Nat) (l4 l5 : List Int) (l6 : List S59) (first day y d y0 d0 : Int) (m m0 : Nat) (w : World)
    (hr4 : Kd.C (Kd.int .i64) w A4 l4.length l4) (hc4 : l4.length ≤ c4) (hr5 : Kd.C (Kd.int .i64) w A5 l5.length l5) (hc5 : l5.length ≤ c5) (hr6 : Kd.C k59 w A6 l6.length l6) (hc6 : l6.length ≤ c6)
    (hl4 : l4.length ≤ 1000000000) (hl5 : l5.length ≤ 1000000000) (hl6 : l6.length ≤ 1000000000)
    (hi0 : 1 ≤ a1) (hi1 : a1 ≤ 1000) (hf0 : 0 ≤ first) (hf1 : first ≤ 2932896) (hd0 : 0 ≤ day) (hd1 : day ≤ 2932896) (hcf : Cal.IsCivil first y0 m0 d0) (hcd : Cal.IsCivil day y m d) (hge : first ≤ day) (e4 : l4 = []) (ef : a0 = 2) (hr : ((day - (day + 3) % 7 - first + (first + 3) % 7) / 7 % a1 == 0) = true) (e6 : l6 ≠ []) (ho : onS l6 ((day + 3) % 7) = false) :
    Calls Tryz.prog 27 #[.agg #[.int .i64 a0, .int .i64 a1, .int .i64 a2, .int .i64 a3, .slice A4 l4.length c4, .slice A5 l5.length c5, .slice A6 l6.length c6], .int .i64 first, .int .i64 day] w fun e w' =>
      e = .returned (.bool (matchS a0 a1 l4 l5 l6 first day y m d y0 m0 d0)) ∧ Below w.heap.size w w' := by
  have hfin : matchS a0 a1 l4 l5 l6 first day y m d y0 m0 d0 = false := by
    unfold matchS
    rw [if_neg (by omega), if_neg (fun h => h.1 e4), if_neg (by omega), if_pos ef, hr, Bool.true_and, if_neg e6, ho]
  have HF := Lib.hid hfin
  clear hfin
  have z4 : decide (0 < l4.length) = false := by rw [e4]; rfl
  have hwk : 0 ≤ day - (day + 3) % 7 - first + (first + 3) % 7 := by omega
  have g1 : (a0 == 1) = false := by rw [ef]; rfl
  have g2 : (a0 == 2) = true := by rw [ef]; rfl
  clear ef
  have p6 : 0 < l6.length := List.length_pos_iff.mpr e6
  have z6 : ((l6.length : Int) == 0) = false := by rw [beq_eq_false_iff_ne]; omega
  have HR4 := Aside0.mk hr4
  have HR5 := Aside0.mk hr5
  have HR6 := Aside0.mk hr6
  have HCF := Aside0.mk hcf
  have HCD := Aside0.mk hcd
  clear hr4 hr5 hr6
  obtain ⟨u1, u2, u3, u4, u5, u6, -⟩ := hcf
  obtain ⟨v1, v2, v3, v4, v5, v6, -⟩ := hcd
  have mlF := mlen_le31 y0 m0
  have mlD := mlen_le31 y m
  have HB := Aside0.mk ((Below.refl w.heap.size w).alloc (Nat.le_refl _) (.cells #[.int .i64 a0, .int .i64 a1, .int .i64 a2, .int .i64 a3, .slice A4 l4.length c4, .slice A5 l5.length c5, .slice A6 l6.length c6] 25))
  have hz : w.heap.size < (w.alloc (.cells #[.int .i64 a0, .int .i64 a1, .int .i64 a2, .int .i64 a3, .slice A4 l4.length c4, .slice A5 l5.length c5, .slice A6 l6.length c6] 25)).heap.size := by simp
  clear e4 e6
  go_enter Tryz.func27, Tryz.ntmps27
  go_wp2_with (first
      | (go_at_call 55; ((with_reducible refine (when_Civil_at hf0 hf1 HCF.out _).mono ?_); rintro e w2 ⟨rfl, hb2⟩; obtain ⟨hc2, hf2⟩ := bcell hb2; have hz : w.heap.size < w2.heap.size := Nat.lt_of_lt_of_le hz hb2.size; have HB' := Aside0.mk (HB.out.trans (hb2.mono HB.out.size)); clear HB hb2; have HB := HB'; clear HB'))
      | (go_at_call 55; ((with_reducible refine (when_Civil_at hd0 hd1 HCD.out _).mono ?_); rintro e w2 ⟨rfl, hb2⟩; obtain ⟨hc2, hf2⟩ := bcell hb2; have hz : w.heap.size < w2.heap.size := Nat.lt_of_lt_of_le hz hb2.size; have HB' := Aside0.mk (HB.out.trans (hb2.mono HB.out.size)); clear HB hb2; have HB := HB'; clear HB'))
      | (go_at_call 56; ((with_reducible refine (date_Weekday first hf0 hf1 _).mono ?_); rintro e w2 ⟨rfl, hb2⟩; obtain ⟨hc2, hf2⟩ := bcell hb2; have hz : w.heap.size < w2.heap.size := Nat.lt_of_lt_of_le hz hb2.size; have HB' := Aside0.mk (HB.out.trans (hb2.mono HB.out.size)); clear HB hb2; have HB := HB'; clear HB'))
      | (go_at_call 56; ((with_reducible refine (date_Weekday day hd0 hd1 _).mono ?_); rintro e w2 ⟨rfl, hb2⟩; obtain ⟨hc2, hf2⟩ := bcell hb2; have hz : w.heap.size < w2.heap.size := Nat.lt_of_lt_of_le hz hb2.size; have HB' := Aside0.mk (HB.out.trans (hb2.mono HB.out.size)); clear HB hb2; have HB := HB'; clear HB'))
      | (go_at_call 57; ((with_reducible refine (contains_int A4 c4 l4 _ _ (Kd.C_below HR4.out HB.out) hc4 hl4).mono ?_); rintro e w2 ⟨rfl, hb2⟩; obtain ⟨hc2, hf2⟩ := bcell hb2; have hz : w.heap.size < w2.heap.size := Nat.lt_of_lt_of_le hz hb2.size; have HB' := Aside0.mk (HB.out.trans (hb2.mono HB.out.size)); clear HB hb2; have HB := HB'; clear HB'))
      | (go_at_call 58; ((with_reducible refine (rule_on a0 a1 a2 a3 A4 A5 A6 c4 c5 c6 l4 l5 l6 _ _ (Kd.C_below HR4.out HB.out) hc4 (Kd.C_below HR5.out HB.out) hc5 (Kd.C_below HR6.out HB.out) hc6 hl6).mono ?_); rintro e w2 ⟨rfl, hb2⟩; obtain ⟨hc2, hf2⟩ := bcell hb2; have hz : w.heap.size < w2.heap.size := Nat.lt_of_lt_of_le hz hb2.size; have HB' := Aside0.mk (HB.out.trans (hb2.mono HB.out.size)); clear HB hb2; have HB := HB'; clear HB'))
      | (go_at_call 59; ((with_reducible refine (recur_may a0 a1 a2 a3 A4 A5 A6 c4 c5 c6 l4 l5 l6 y d _ d0 m _ (Kd.C_below HR5.out HB.out) hc5 (Kd.C_below HR6.out HB.out) hc6 hl5 hl6 v1 v2 (by omega) (by omega) v5 v6).mono ?_); rintro e w2 ⟨rfl, hb2⟩; obtain ⟨hc2, hf2⟩ := bcell hb2; have hz : w.heap.size < w2.heap.size := Nat.lt_of_lt_of_le hz hb2.size; have HB' := Aside0.mk (HB.out.trans (hb2.mono HB.out.size)); clear HB hb2; have HB := HB'; clear HB')))
  go_ret
  exact ⟨ret_bool HF.out.symm, HB.out⟩
set_option maxRecDepth 100000 in
set_option maxHeartbeats 4000000 in
theorem recur_match_f3aE (a0 a1 a2 a3 : Int) (A4 A5 A6 : Option Addr) (c4 c5 c6 : Nat) (l4 l5 : List Int) (l6 : List S59) (first day y d y0 d0 : Int) (m m0 : Nat) (w : World)
    (hr4 : Kd.C (Kd.int .i64) w A4 l4.length l4) (hc4 : l4.length ≤ c4) (hr5 : Kd.C (Kd.int .i64) w A5 l5.length l5) (hc5 : l5.length ≤ c5) (hr6 : Kd.C k59 w A6 l6.length l6) (hc6 : l6.length ≤ c6)
    (hl4 : l4.length ≤ 1000000000) (hl5 : l5.length ≤ 1000000000) (hl6 : l6.length ≤ 1000000000)
    (hi0 : 1 ≤ a1) (hi1 : a1 ≤ 1000) (hf0 : 0 ≤ first) (hf1 : first ≤ 2932896) (hd0 : 0 ≤ day) (hd1 : day ≤ 2932896) (hcf : Cal.IsCivil first y0 m0 d0) (hcd : Cal.IsCivil day y m d) (hge : first ≤ day) (e4 : l4 = []) (ef : a0 = 3) (hr : ((12 * (y - y0) + (m : Int) - (m0 : Int)) % a1 == 0) = true) :
    Calls Tryz.prog 27 #[.agg #[.int .i64 a0, .int .i64 a1, .int .i64 a2, .int .i64 a3, .slice A4 l4.length c4, .slice A5 l5.length c5, .slice A6 l6.length c6], .int .i64 first, .int .i64 day] w fun e w' =>
      e = .returned (.bool (matchS a0 a1 l4 l5 l6 first day y m d y0 m0 d0)) ∧ Below w.heap.size w w' := by
  have hfin : matchS a0 a1 l4 l5 l6 first day y m d y0 m0 d0 = mayS l5 l6 (Cal.mlen y m) d ((day + 3) % 7) d0 := by
    unfold matchS
    rw [if_neg (by omega), if_neg (fun h => h.1 e4), if_neg (by omega), if_neg (by omega), if_pos ef, hr, Bool.true_and]
  have HF := Lib.hid hfin
  clear hfin
  have z4 : decide (0 < l4.length) = false := by rw [e4]; rfl
  obtain ⟨hy, hm12⟩ := hcf.mono hcd hge
  have hmm : 0 ≤ 12 * (y - y0) + (m : Int) - (m0 : Int) := by omega
  clear hm12
  have g1 : (a0 == 1) = false := by rw [ef]; rfl
  have g2 : (a0 == 2) = false := by rw [ef]; rfl
  have g3 : (a0 == 3) = true := by rw [ef]; rfl
  clear ef
  have HR4 := Aside0.mk hr4
  have HR5 := Aside0.mk hr5
  have HR6 := Aside0.mk hr6
  have HCF := Aside0.mk hcf
  have HCD := Aside0.mk hcd
  clear hr4 hr5 hr6
  obtain ⟨u1, u2, u3, u4, u5, u6, -⟩ := hcf
  obtain ⟨v1, v2, v3, v4, v5, v6, -⟩ := hcd
  have mlF := mlen_le31 y0 m0
  have mlD := mlen_le31 y m
  have HB := Aside0.mk ((Below.refl w.heap.size w).alloc (Nat.le_refl _) (.cells #[.int .i64 a0, .int .i64 a1, .int .i64 a2, .int .i64 a3, .slice A4 l4.length c4, .slice A5 l5.length c5, .slice A6 l6.length c6] 25))
  have hz : w.heap.size < (w.alloc (.cells #[.int .i64 a0, .int .i64 a1, .int .i64 a2, .int .i64 a3, .slice A4 l4.length c4, .slice A5 l5.length c5, .slice A6 l6.length c6] 25)).heap.size := by simp
  clear e4
  go_enter Tryz.func27, Tryz.ntmps27
  go_wp2_with (first
      | (go_at_call 55; ((with_reducible refine (when_Civil_at hf0 hf1 HCF.out _).mono ?_); rintro e w2 ⟨rfl, hb2⟩; obtain ⟨hc2, hf2⟩ := bcell hb2; have hz : w.heap.size < w2.heap.size := Nat.lt_of_lt_of_le hz hb2.size; have HB' := Aside0.mk (HB.out.trans (hb2.mono HB.out.size)); clear HB hb2; have HB := HB'; clear HB'))
      | (go_at_call 55; ((with_reducible refine (when_Civil_at hd0 hd1 HCD.out _).mono ?_); rintro e w2 ⟨rfl, hb2⟩; obtain ⟨hc2, hf2⟩ := bcell hb2; have hz : w.heap.size < w2.heap.size := Nat.lt_of_lt_of_le hz hb2.size; have HB' := Aside0.mk (HB.out.trans (hb2.mono HB.out.size)); clear HB hb2; have HB := HB'; clear HB'))
      | (go_at_call 56; ((with_reducible refine (date_Weekday first hf0 hf1 _).mono ?_); rintro e w2 ⟨rfl, hb2⟩; obtain ⟨hc2, hf2⟩ := bcell hb2; have hz : w.heap.size < w2.heap.size := Nat.lt_of_lt_of_le hz hb2.size; have HB' := Aside0.mk (HB.out.trans (hb2.mono HB.out.size)); clear HB hb2; have HB := HB'; clear HB'))
      | (go_at_call 56; ((with_reducible refine (date_Weekday day hd0 hd1 _).mono ?_); rintro e w2 ⟨rfl, hb2⟩; obtain ⟨hc2, hf2⟩ := bcell hb2; have hz : w.heap.size < w2.heap.size := Nat.lt_of_lt_of_le hz hb2.size; have HB' := Aside0.mk (HB.out.trans (hb2.mono HB.out.size)); clear HB hb2; have HB := HB'; clear HB'))
      | (go_at_call 57; ((with_reducible refine (contains_int A4 c4 l4 _ _ (Kd.C_below HR4.out HB.out) hc4 hl4).mono ?_); rintro e w2 ⟨rfl, hb2⟩; obtain ⟨hc2, hf2⟩ := bcell hb2; have hz : w.heap.size < w2.heap.size := Nat.lt_of_lt_of_le hz hb2.size; have HB' := Aside0.mk (HB.out.trans (hb2.mono HB.out.size)); clear HB hb2; have HB := HB'; clear HB'))
      | (go_at_call 58; ((with_reducible refine (rule_on a0 a1 a2 a3 A4 A5 A6 c4 c5 c6 l4 l5 l6 _ _ (Kd.C_below HR4.out HB.out) hc4 (Kd.C_below HR5.out HB.out) hc5 (Kd.C_below HR6.out HB.out) hc6 hl6).mono ?_); rintro e w2 ⟨rfl, hb2⟩; obtain ⟨hc2, hf2⟩ := bcell hb2; have hz : w.heap.size < w2.heap.size := Nat.lt_of_lt_of_le hz hb2.size; have HB' := Aside0.mk (HB.out.trans (hb2.mono HB.out.size)); clear HB hb2; have HB := HB'; clear HB'))
      | (go_at_call 59; ((with_reducible refine (recur_may a0 a1 a2 a3 A4 A5 A6 c4 c5 c6 l4 l5 l6 y d _ d0 m _ (Kd.C_below HR5.out HB.out) hc5 (Kd.C_below HR6.out HB.out) hc6 hl5 hl6 v1 v2 (by omega) (by omega) v5 v6).mono ?_); rintro e w2 ⟨rfl, hb2⟩; obtain ⟨hc2, hf2⟩ := bcell hb2; have hz : w.heap.size < w2.heap.size := Nat.lt_of_lt_of_le hz hb2.size; have HB' := Aside0.mk (HB.out.trans (hb2.mono HB.out.size)); clear HB hb2; have HB := HB'; clear HB')))
  go_ret
  exact ⟨ret_bool HF.out.symm, HB.out⟩
set_option maxRecDepth 100000 in
set_option maxHeartbeats 4000000 in
theorem recur_match_f3bE (a0 a1 a2 a3 : Int) (A4 A5 A6 : Option Addr) (c4 c5 c6 : Nat) (l4 l5 : List Int) (l6 : List S59) (first day y d y0 d0 : Int) (m m0 : Nat) (w : World)
    (hr4 : Kd.C (Kd.int .i64) w A4 l4.length l4) (hc4 : l4.length ≤ c4) (hr5 : Kd.C (Kd.int .i64) w A5 l5.length l5) (hc5 : l5.length ≤ c5) (hr6 : Kd.C k59 w A6 l6.length l6) (hc6 : l6.length ≤ c6)
    (hl4 : l4.length ≤ 1000000000) (hl5 : l5.length ≤ 1000000000) (hl6 : l6.length ≤ 1000000000)
    (hi0 : 1 ≤ a1) (hi1 : a1 ≤ 1000) (hf0 : 0 ≤ first) (hf1 : first ≤ 2932896) (hd0 : 0 ≤ day) (hd1 : day ≤ 2932896) (hcf : Cal.IsCivil first y0 m0 d0) (hcd : Cal.IsCivil day y m d) (hge : first ≤ day) (e4 : l4 = []) (ef : a0 = 3) (hr : ((12 * (y - y0) + (m : Int) - (m0 : Int)) % a1 == 0) = false) :
    Calls Tryz.prog 27 #[.agg #[.int .i64 a0, .int .i64 a1, .int .i64 a2, .int .i64 a3, .slice A4 l4.length c4, .slice A5 l5.length c5, .slice A6 l6.length c6], .int .i64 first, .int .i64 day] w fun e w' =>
      e = .returned (.bool (matchS a0 a1 l4 l5 l6 first day y m d y0 m0 d0)) ∧ Below w.heap.size w w' := by
  have hfin : matchS a0 a1 l4 l5 l6 first day y m d y0 m0 d0 = false := by
    unfold matchS
    rw [if_neg (by omega), if_neg (fun h => h.1 e4), if_neg (by omega), if_neg (by omega), if_pos ef, hr, Bool.false_and]
  have HF := Lib.hid hfin
  clear hfin
  have z4 : decide (0 < l4.length) = false := by rw [e4]; rfl
  obtain ⟨hy, hm12⟩ := hcf.mono hcd hge
  have hmm : 0 ≤ 12 * (y - y0) + (m : Int) - (m0 : Int) := by omega
  clear hm12
  have g1 : (a0 == 1) = false := by rw [ef]; rfl
  have g2 : (a0 == 2) = false := by rw [ef]; rfl
  have g3 : (a0 == 3) = true := by rw [ef]; rfl
  clear ef
  have HR4 := Aside0.mk hr4
  have HR5 := Aside0.mk hr5
  have HR6 := Aside0.mk hr6
  have HCF := Aside0.mk hcf
  have HCD := Aside0.mk hcd
  clear hr4 hr5 hr6
  obtain ⟨u1, u2, u3, u4, u5, u6, -⟩ := hcf
  obtain ⟨v1, v2, v3, v4, v5, v6, -⟩ := hcd
  have mlF := mlen_le31 y0 m0
  have mlD := mlen_le31 y m
  have HB := Aside0.mk ((Below.refl w.heap.size w).alloc (Nat.le_refl _) (.cells #[.int .i64 a0, .int .i64 a1, .int .i64 a2, .int .i64 a3, .slice A4 l4.length c4, .slice A5 l5.length c5, .slice A6 l6.length c6] 25))
  have hz : w.heap.size < (w.alloc (.cells #[.int .i64 a0, .int .i64 a1, .int .i64 a2, .int .i64 a3, .slice A4 l4.length c4, .slice A5 l5.length c5, .slice A6 l6.length c6] 25)).heap.size := by simp
  clear e4
  go_enter Tryz.func27, Tryz.ntmps27
  go_wp2_with (first
      | (go_at_call 55; ((with_reducible refine (when_Civil_at hf0 hf1 HCF.out _).mono ?_); rintro e w2 ⟨rfl, hb2⟩; obtain ⟨hc2, hf2⟩ := bcell hb2; have hz : w.heap.size < w2.heap.size := Nat.lt_of_lt_of_le hz hb2.size; have HB' := Aside0.mk (HB.out.trans (hb2.mono HB.out.size)); clear HB hb2; have HB := HB'; clear HB'))
      | (go_at_call 55; ((with_reducible refine (when_Civil_at hd0 hd1 HCD.out _).mono ?_); rintro e w2 ⟨rfl, hb2⟩; obtain ⟨hc2, hf2⟩ := bcell hb2; have hz : w.heap.size < w2.heap.size := Nat.lt_of_lt_of_le hz hb2.size; have HB' := Aside0.mk (HB.out.trans (hb2.mono HB.out.size)); clear HB hb2; have HB := HB'; clear HB'))
      | (go_at_call 56; ((with_reducible refine (date_Weekday first hf0 hf1 _).mono ?_); rintro e w2 ⟨rfl, hb2⟩; obtain ⟨hc2, hf2⟩ := bcell hb2; have hz : w.heap.size < w2.heap.size := Nat.lt_of_lt_of_le hz hb2.size; have HB' := Aside0.mk (HB.out.trans (hb2.mono HB.out.size)); clear HB hb2; have HB := HB'; clear HB'))
      | (go_at_call 56; ((with_reducible refine (date_Weekday day hd0 hd1 _).mono ?_); rintro e w2 ⟨rfl, hb2⟩; obtain ⟨hc2, hf2⟩ := bcell hb2; have hz : w.heap.size < w2.heap.size := Nat.lt_of_lt_of_le hz hb2.size; have HB' := Aside0.mk (HB.out.trans (hb2.mono HB.out.size)); clear HB hb2; have HB := HB'; clear HB'))
      | (go_at_call 57; ((with_reducible refine (contains_int A4 c4 l4 _ _ (Kd.C_below HR4.out HB.out) hc4 hl4).mono ?_); rintro e w2 ⟨rfl, hb2⟩; obtain ⟨hc2, hf2⟩ := bcell hb2; have hz : w.heap.size < w2.heap.size := Nat.lt_of_lt_of_le hz hb2.size; have HB' := Aside0.mk (HB.out.trans (hb2.mono HB.out.size)); clear HB hb2; have HB := HB'; clear HB'))
      | (go_at_call 58; ((with_reducible refine (rule_on a0 a1 a2 a3 A4 A5 A6 c4 c5 c6 l4 l5 l6 _ _ (Kd.C_below HR4.out HB.out) hc4 (Kd.C_below HR5.out HB.out) hc5 (Kd.C_below HR6.out HB.out) hc6 hl6).mono ?_); rintro e w2 ⟨rfl, hb2⟩; obtain ⟨hc2, hf2⟩ := bcell hb2; have hz : w.heap.size < w2.heap.size := Nat.lt_of_lt_of_le hz hb2.size; have HB' := Aside0.mk (HB.out.trans (hb2.mono HB.out.size)); clear HB hb2; have HB := HB'; clear HB'))
      | (go_at_call 59; ((with_reducible refine (recur_may a0 a1 a2 a3 A4 A5 A6 c4 c5 c6 l4 l5 l6 y d _ d0 m _ (Kd.C_below HR5.out HB.out) hc5 (Kd.C_below HR6.out HB.out) hc6 hl5 hl6 v1 v2 (by omega) (by omega) v5 v6).mono ?_); rintro e w2 ⟨rfl, hb2⟩; obtain ⟨hc2, hf2⟩ := bcell hb2; have hz : w.heap.size < w2.heap.size := Nat.lt_of_lt_of_le hz hb2.size; have HB' := Aside0.mk (HB.out.trans (hb2.mono HB.out.size)); clear HB hb2; have HB := HB'; clear HB')))
  go_ret
  exact ⟨ret_bool HF.out.symm, HB.out⟩
set_option maxRecDepth 100000 in
set_option maxHeartbeats 4000000 in
theorem recur_match_f4bE (a0 a1 a2 a3 : Int) (A4 A5 A6 : Option Addr) (c4 c5 c6 : Nat) (l4 l5 : List Int) (l6 : List S59) (first day y d y0 d0 : Int) (m m0 : Nat) (w : World)
    (hr4 : Kd.C (Kd.int .i64) w A4 l4.length l4) (hc4 : l4.length ≤ c4) (hr5 : Kd.C (Kd.int .i64) w A5 l5.length l5) (hc5 : l5.length ≤ c5) (hr6 : Kd.C k59 w A6 l6.length l6) (hc6 : l6.length ≤ c6)
    (hl4 : l4.length ≤ 1000000000) (hl5 : l5.length ≤ 1000000000) (hl6 : l6.length ≤ 1000000000)
    (hi0 : 1 ≤ a1) (hi1 : a1 ≤ 1000) (hf0 : 0 ≤ first) (hf1 : first ≤ 2932896) (hd0 : 0 ≤ day) (hd1 : day ≤ 2932896) (hcf : Cal.IsCivil first y0 m0 d0) (hcd : Cal.IsCivil day y m d) (hge : first ≤ day) (e4 : l4 = []) (ef : a0 = 4) (hr : ((y - y0) % a1 == 0) = false) :
    Calls Tryz.prog 27 #[.agg #[.int .i64 a0, .int .i64 a1, .int .i64 a2, .int .i64 a3, .slice A4 l4.length c4, .slice A5 l5.length c5, .slice A6 l6.length c6], .int .i64 first, .int .i64 day] w fun e w' =>
      e = .returned (.bool (matchS a0 a1 l4 l5 l6 first day y m d y0 m0 d0)) ∧ Below w.heap.size w w' := by
  have hfin : matchS a0 a1 l4 l5 l6 first day y m d y0 m0 d0 = false := by
    unfold matchS
    rw [if_neg (by omega), if_neg (fun h => h.1 e4), if_neg (by omega), if_neg (by omega), if_neg (by omega), hr, Bool.false_and, Bool.false_and]
  have HF := Lib.hid hfin
  clear hfin
  have z4 : decide (0 < l4.length) = false := by rw [e4]; rfl
  obtain ⟨hy, hm12⟩ := hcf.mono hcd hge
  clear hm12
  have g1 : (a0 == 1) = false := by rw [ef]; rfl
  have g2 : (a0 == 2) = false := by rw [ef]; rfl
  have g3 : (a0 == 3) = false := by rw [ef]; rfl
  clear ef
  have HR4 := Aside0.mk hr4
  have HR5 := Aside0.mk hr5
  have HR6 := Aside0.mk hr6
  have HCF := Aside0.mk hcf
  have HCD := Aside0.mk hcd
  clear hr4 hr5 hr6
  obtain ⟨u1, u2, u3, u4, u5, u6, -⟩ := hcf
  obtain ⟨v1, v2, v3, v4, v5, v6, -⟩ := hcd
  have mlF := mlen_le31 y0 m0
  have mlD := mlen_le31 y m
  have HB := Aside0.mk ((Below.refl w.heap.size w).alloc (Nat.le_refl _) (.cells #[.int .i64 a0, .int .i64 a1, .int .i64 a2, .int .i64 a3, .slice A4 l4.length c4, .slice A5 l5.length c5, .slice A6 l6.length c6] 25))
  have hz : w.heap.size < (w.alloc (.cells #[.int .i64 a0, .int .i64 a1, .int .i64 a2, .int .i64 a3, .slice A4 l4.length c4, .slice A5 l5.length c5, .slice A6 l6.length c6] 25)).heap.size := by simp
  clear e4
  go_enter Tryz.func27, Tryz.ntmps27
  go_wp2_with (first
      | (go_at_call 55; ((with_reducible refine (when_Civil_at hf0 hf1 HCF.out _).mono ?_); rintro e w2 ⟨rfl, hb2⟩; obtain ⟨hc2, hf2⟩ := bcell hb2; have hz : w.heap.size < w2.heap.size := Nat.lt_of_lt_of_le hz hb2.size; have HB' := Aside0.mk (HB.out.trans (hb2.mono HB.out.size)); clear HB hb2; have HB := HB'; clear HB'))
      | (go_at_call 55; ((with_reducible refine (when_Civil_at hd0 hd1 HCD.out _).mono ?_); rintro e w2 ⟨rfl, hb2⟩; obtain ⟨hc2, hf2⟩ := bcell hb2; have hz : w.heap.size < w2.heap.size := Nat.lt_of_lt_of_le hz hb2.size; have HB' := Aside0.mk (HB.out.trans (hb2.mono HB.out.size)); clear HB hb2; have HB := HB'; clear HB'))
      | (go_at_call 56; ((with_reducible refine (date_Weekday first hf0 hf1 _).mono ?_); rintro e w2 ⟨rfl, hb2⟩; obtain ⟨hc2, hf2⟩ := bcell hb2; have hz : w.heap.size < w2.heap.size := Nat.lt_of_lt_of_le hz hb2.size; have HB' := Aside0.mk (HB.out.trans (hb2.mono HB.out.size)); clear HB hb2; have HB := HB'; clear HB'))
      | (go_at_call 56; ((with_reducible refine (date_Weekday day hd0 hd1 _).mono ?_); rintro e w2 ⟨rfl, hb2⟩; obtain ⟨hc2, hf2⟩ := bcell hb2; have hz : w.heap.size < w2.heap.size := Nat.lt_of_lt_of_le hz hb2.size; have HB' := Aside0.mk (HB.out.trans (hb2.mono HB.out.size)); clear HB hb2; have HB := HB'; clear HB'))
      | (go_at_call 57; ((with_reducible refine (contains_int A4 c4 l4 _ _ (Kd.C_below HR4.out HB.out) hc4 hl4).mono ?_); rintro e w2 ⟨rfl, hb2⟩; obtain ⟨hc2, hf2⟩ := bcell hb2; have hz : w.heap.size < w2.heap.size := Nat.lt_of_lt_of_le hz hb2.size; have HB' := Aside0.mk (HB.out.trans (hb2.mono HB.out.size)); clear HB hb2; have HB := HB'; clear HB'))
      | (go_at_call 58; ((with_reducible refine (rule_on a0 a1 a2 a3 A4 A5 A6 c4 c5 c6 l4 l5 l6 _ _ (Kd.C_below HR4.out HB.out) hc4 (Kd.C_below HR5.out HB.out) hc5 (Kd.C_below HR6.out HB.out) hc6 hl6).mono ?_); rintro e w2 ⟨rfl, hb2⟩; obtain ⟨hc2, hf2⟩ := bcell hb2; have hz : w.heap.size < w2.heap.size := Nat.lt_of_lt_of_le hz hb2.size; have HB' := Aside0.mk (HB.out.trans (hb2.mono HB.out.size)); clear HB hb2; have HB := HB'; clear HB'))
      | (go_at_call 59; ((with_reducible refine (recur_may a0 a1 a2 a3 A4 A5 A6 c4 c5 c6 l4 l5 l6 y d _ d0 m _ (Kd.C_below HR5.out HB.out) hc5 (Kd.C_below HR6.out HB.out) hc6 hl5 hl6 v1 v2 (by omega) (by omega) v5 v6).mono ?_); rintro e w2 ⟨rfl, hb2⟩; obtain ⟨hc2, hf2⟩ := bcell hb2; have hz : w.heap.size < w2.heap.size := Nat.lt_of_lt_of_le hz hb2.size; have HB' := Aside0.mk (HB.out.trans (hb2.mono HB.out.size)); clear HB hb2; have HB := HB'; clear HB')))
  go_ret
  exact ⟨ret_bool HF.out.symm, HB.out⟩
set_option maxRecDepth 100000 in
set_option maxHeartbeats 4000000 in
theorem recur_match_f4tE (a0 a1 a2 a3 : Int) (A4 A5 A6 : Option Addr) (c4 c5 c6 : Nat) (l4 l5 : List Int) (l6 : List S59) (first day y d y0 d0 : Int) (m m0 : Nat) (w : World)
    (hr4 : Kd.C (Kd.int .i64) w A4 l4.length l4) (hc4 : l4.length ≤ c4) (hr5 : Kd.C (Kd.int .i64) w A5 l5.length l5) (hc5 : l5.length ≤ c5) (hr6 : Kd.C k59 w A6 l6.length l6) (hc6 : l6.length ≤ c6)
    (hl4 : l4.length ≤ 1000000000) (hl5 : l5.length ≤ 1000000000) (hl6 : l6.length ≤ 1000000000)
    (hi0 : 1 ≤ a1) (hi1 : a1 ≤ 1000) (hf0 : 0 ≤ first) (hf1 : first ≤ 2932896) (hd0 : 0 ≤ day) (hd1 : day ≤ 2932896) (hcf : Cal.IsCivil first y0 m0 d0) (hcd : Cal.IsCivil day y m d) (hge : first ≤ day) (e4 : l4 = []) (ef : a0 = 4) (hr : ((y - y0) % a1 == 0) = true) (he : ((m : Int) == (m0 : Int)) = true) :
    Calls Tryz.prog 27 #[.agg #[.int .i64 a0, .int .i64 a1, .int .i64 a2, .int .i64 a3, .slice A4 l4.length c4, .slice A5 l5.length c5, .slice A6 l6.length c6], .int .i64 first, .int .i64 day] w fun e w' =>
      e = .returned (.bool (matchS a0 a1 l4 l5 l6 first day y m d y0 m0 d0)) ∧ Below w.heap.size w w' := by
  have hfin : matchS a0 a1 l4 l5 l6 first day y m d y0 m0 d0 = mayS l5 l6 (Cal.mlen y m) d ((day + 3) % 7) d0 := by
    unfold matchS
    rw [if_neg (by omega), if_neg (fun h => h.1 e4), if_neg (by omega), if_neg (by omega), if_neg (by omega), hr, Bool.true_and, he, e4]; simp
  have HF := Lib.hid hfin
  clear hfin
  have z4 : decide (0 < l4.length) = false := by rw [e4]; rfl
  obtain ⟨hy, hm12⟩ := hcf.mono hcd hge
  clear hm12
  have g1 : (a0 == 1) = false := by rw [ef]; rfl
  have g2 : (a0 == 2) = false := by rw [ef]; rfl
  have g3 : (a0 == 3) = false := by rw [ef]; rfl
  clear ef
  have HR4 := Aside0.mk hr4
  have HR5 := Aside0.mk hr5
  have HR6 := Aside0.mk hr6
  have HCF := Aside0.mk hcf
  have HCD := Aside0.mk hcd
  clear hr4 hr5 hr6
  obtain ⟨u1, u2, u3, u4, u5, u6, -⟩ := hcf
  obtain ⟨v1, v2, v3, v4, v5, v6, -⟩ := hcd
  have mlF := mlen_le31 y0 m0
  have mlD := mlen_le31 y m
  have HB := Aside0.mk ((Below.refl w.heap.size w).alloc (Nat.le_refl _) (.cells #[.int .i64 a0, .int .i64 a1, .int .i64 a2, .int .i64 a3, .slice A4 l4.length c4, .slice A5 l5.length c5, .slice A6 l6.length c6] 25))
  have hz : w.heap.size < (w.alloc (.cells #[.int .i64 a0, .int .i64 a1, .int .i64 a2, .int .i64 a3, .slice A4 l4.length c4, .slice A5 l5.length c5, .slice A6 l6.length c6] 25)).heap.size := by simp
  clear e4
  go_enter Tryz.func27, Tryz.ntmps27
  go_wp2_with (first
      | (go_at_call 55; ((with_reducible refine (when_Civil_at hf0 hf1 HCF.out _).mono ?_); rintro e w2 ⟨rfl, hb2⟩; obtain ⟨hc2, hf2⟩ := bcell hb2; have hz : w.heap.size < w2.heap.size := Nat.lt_of_lt_of_le hz hb2.size; have HB' := Aside0.mk (HB.out.trans (hb2.mono HB.out.size)); clear HB hb2; have HB := HB'; clear HB'))
      | (go_at_call 55; ((with_reducible refine (when_Civil_at hd0 hd1 HCD.out _).mono ?_); rintro e w2 ⟨rfl, hb2⟩; obtain ⟨hc2, hf2⟩ := bcell hb2; have hz : w.heap.size < w2.heap.size := Nat.lt_of_lt_of_le hz hb2.size; have HB' := Aside0.mk (HB.out.trans (hb2.mono HB.out.size)); clear HB hb2; have HB := HB'; clear HB'))
      | (go_at_call 56; ((with_reducible refine (date_Weekday first hf0 hf1 _).mono ?_); rintro e w2 ⟨rfl, hb2⟩; obtain ⟨hc2, hf2⟩ := bcell hb2; have hz : w.heap.size < w2.heap.size := Nat.lt_of_lt_of_le hz hb2.size; have HB' := Aside0.mk (HB.out.trans (hb2.mono HB.out.size)); clear HB hb2; have HB := HB'; clear HB'))
      | (go_at_call 56; ((with_reducible refine (date_Weekday day hd0 hd1 _).mono ?_); rintro e w2 ⟨rfl, hb2⟩; obtain ⟨hc2, hf2⟩ := bcell hb2; have hz : w.heap.size < w2.heap.size := Nat.lt_of_lt_of_le hz hb2.size; have HB' := Aside0.mk (HB.out.trans (hb2.mono HB.out.size)); clear HB hb2; have HB := HB'; clear HB'))
      | (go_at_call 57; ((with_reducible refine (contains_int A4 c4 l4 _ _ (Kd.C_below HR4.out HB.out) hc4 hl4).mono ?_); rintro e w2 ⟨rfl, hb2⟩; obtain ⟨hc2, hf2⟩ := bcell hb2; have hz : w.heap.size < w2.heap.size := Nat.lt_of_lt_of_le hz hb2.size; have HB' := Aside0.mk (HB.out.trans (hb2.mono HB.out.size)); clear HB hb2; have HB := HB'; clear HB'))
      | (go_at_call 58; ((with_reducible refine (rule_on a0 a1 a2 a3 A4 A5 A6 c4 c5 c6 l4 l5 l6 _ _ (Kd.C_below HR4.out HB.out) hc4 (Kd.C_below HR5.out HB.out) hc5 (Kd.C_below HR6.out HB.out) hc6 hl6).mono ?_); rintro e w2 ⟨rfl, hb2⟩; obtain ⟨hc2, hf2⟩ := bcell hb2; have hz : w.heap.size < w2.heap.size := Nat.lt_of_lt_of_le hz hb2.size; have HB' := Aside0.mk (HB.out.trans (hb2.mono HB.out.size)); clear HB hb2; have HB := HB'; clear HB'))
      | (go_at_call 59; ((with_reducible refine (recur_may a0 a1 a2 a3 A4 A5 A6 c4 c5 c6 l4 l5 l6 y d _ d0 m _ (Kd.C_below HR5.out HB.out) hc5 (Kd.C_below HR6.out HB.out) hc6 hl5 hl6 v1 v2 (by omega) (by omega) v5 v6).mono ?_); rintro e w2 ⟨rfl, hb2⟩; obtain ⟨hc2, hf2⟩ := bcell hb2; have hz : w.heap.size < w2.heap.size := Nat.lt_of_lt_of_le hz hb2.size; have HB' := Aside0.mk (HB.out.trans (hb2.mono HB.out.size)); clear HB hb2; have HB := HB'; clear HB')))
  go_ret
  exact ⟨ret_bool HF.out.symm, HB.out⟩
set_option maxRecDepth 100000 in
set_option maxHeartbeats 4000000 in
theorem recur_match_f4fE (a0 a1 a2 a3 : Int) (A4 A5 A6 : Option Addr) (c4 c5 c6 : Nat) (l4 l5 : List Int) (l6 : List S59) (first day y d y0 d0 : Int) (m m0 : Nat) (w : World)
    (hr4 : Kd.C (Kd.int .i64) w A4 l4.length l4) (hc4 : l4.length ≤ c4) (hr5 : Kd.C (Kd.int .i64) w A5 l5.length l5) (hc5 : l5.length ≤ c5) (hr6 : Kd.C k59 w A6 l6.length l6) (hc6 : l6.length ≤ c6)
    (hl4 : l4.length ≤ 1000000000) (hl5 : l5.length ≤ 1000000000) (hl6 : l6.length ≤ 1000000000)
    (hi0 : 1 ≤ a1) (hi1 : a1 ≤ 1000) (hf0 : 0 ≤ first) (hf1 : first ≤ 2932896) (hd0 : 0 ≤ day) (hd1 : day ≤ 2932896) (hcf : Cal.IsCivil first y0 m0 d0) (hcd : Cal.IsCivil day y m d) (hge : first ≤ day) (e4 : l4 = []) (ef : a0 = 4) (hr : ((y - y0) % a1 == 0) = true) (he : ((m : Int) == (m0 : Int)) = false) :
    Calls Tryz.prog 27 #[.agg #[.int .i64 a0, .int .i64 a1, .int .i64 a2, .int .i64 a3, .slice A4 l4.length c4, .slice A5 l5.length c5, .slice A6 l6.length c6], .int .i64 first, .int .i64 day] w fun e w' =>
      e = .returned (.bool (matchS a0 a1 l4 l5 l6 first day y m d y0 m0 d0)) ∧ Below w.heap.size w w' := by
  have hfin : matchS a0 a1 l4 l5 l6 first day y m d y0 m0 d0 = false := by
    unfold matchS
    rw [if_neg (by omega), if_neg (fun h => h.1 e4), if_neg (by omega), if_neg (by omega), if_neg (by omega), hr, Bool.true_and, he, e4]; simp
  have HF := Lib.hid hfin
  clear hfin
  have z4 : decide (0 < l4.length) = false := by rw [e4]; rfl
  obtain ⟨hy, hm12⟩ := hcf.mono hcd hge
  clear hm12
  have g1 : (a0 == 1) = false := by rw [ef]; rfl
  have g2 : (a0 == 2) = false := by rw [ef]; rfl
  have g3 : (a0 == 3) = false := by rw [ef]; rfl
  clear ef
  have HR4 := Aside0.mk hr4
  have HR5 := Aside0.mk hr5
  have HR6 := Aside0.mk hr6
  have HCF := Aside0.mk hcf
  have HCD := Aside0.mk hcd
  clear hr4 hr5 hr6
  obtain ⟨u1, u2, u3, u4, u5, u6, -⟩ := hcf
  obtain ⟨v1, v2, v3, v4, v5, v6, -⟩ := hcd
  have mlF := mlen_le31 y0 m0
  have mlD := mlen_le31 y m
  have HB := Aside0.mk ((Below.refl w.heap.size w).alloc (Nat.le_refl _) (.cells #[.int .i64 a0, .int .i64 a1, .int .i64 a2, .int .i64 a3, .slice A4 l4.length c4, .slice A5 l5.length c5, .slice A6 l6.length c6] 25))
  have hz : w.heap.size < (w.alloc (.cells #[.int .i64 a0, .int .i64 a1, .int .i64 a2, .int .i64 a3, .slice A4 l4.length c4, .slice A5 l5.length c5, .slice A6 l6.length c6] 25)).heap.size := by simp
  clear e4
  go_enter Tryz.func27, Tryz.ntmps27
  go_wp2_with (first
      | (go_at_call 55; ((with_reducible refine (when_Civil_at hf0 hf1 HCF.out _).mono ?_); rintro e w2 ⟨rfl, hb2⟩; obtain ⟨hc2, hf2⟩ := bcell hb2; have hz : w.heap.size < w2.heap.size := Nat.lt_of_lt_of_le hz hb2.size; have HB' := Aside0.mk (HB.out.trans (hb2.mono HB.out.size)); clear HB hb2; have HB := HB'; clear HB'))
      | (go_at_call 55; ((with_reducible refine (when_Civil_at hd0 hd1 HCD.out _).mono ?_); rintro e w2 ⟨rfl, hb2⟩; obtain ⟨hc2, hf2⟩ := bcell hb2; have hz : w.heap.size < w2.heap.size := Nat.lt_of_lt_of_le hz hb2.size; have HB' := Aside0.mk (HB.out.trans (hb2.mono HB.out.size)); clear HB hb2; have HB := HB'; clear HB'))
      | (go_at_call 56; ((with_reducible refine (date_Weekday first hf0 hf1 _).mono ?_); rintro e w2 ⟨rfl, hb2⟩; obtain ⟨hc2, hf2⟩ := bcell hb2; have hz : w.heap.size < w2.heap.size := Nat.lt_of_lt_of_le hz hb2.size; have HB' := Aside0.mk (HB.out.trans (hb2.mono HB.out.size)); clear HB hb2; have HB := HB'; clear HB'))
      | (go_at_call 56; ((with_reducible refine (date_Weekday day hd0 hd1 _).mono ?_); rintro e w2 ⟨rfl, hb2⟩; obtain ⟨hc2, hf2⟩ := bcell hb2; have hz : w.heap.size < w2.heap.size := Nat.lt_of_lt_of_le hz hb2.size; have HB' := Aside0.mk (HB.out.trans (hb2.mono HB.out.size)); clear HB hb2; have HB := HB'; clear HB'))
      | (go_at_call 57; ((with_reducible refine (contains_int A4 c4 l4 _ _ (Kd.C_below HR4.out HB.out) hc4 hl4).mono ?_); rintro e w2 ⟨rfl, hb2⟩; obtain ⟨hc2, hf2⟩ := bcell hb2; have hz : w.heap.size < w2.heap.size := Nat.lt_of_lt_of_le hz hb2.size; have HB' := Aside0.mk (HB.out.trans (hb2.mono HB.out.size)); clear HB hb2; have HB := HB'; clear HB'))
      | (go_at_call 58; ((with_reducible refine (rule_on a0 a1 a2 a3 A4 A5 A6 c4 c5 c6 l4 l5 l6 _ _ (Kd.C_below HR4.out HB.out) hc4 (Kd.C_below HR5.out HB.out) hc5 (Kd.C_below HR6.out HB.out) hc6 hl6).mono ?_); rintro e w2 ⟨rfl, hb2⟩; obtain ⟨hc2, hf2⟩ := bcell hb2; have hz : w.heap.size < w2.heap.size := Nat.lt_of_lt_of_le hz hb2.size; have HB' := Aside0.mk (HB.out.trans (hb2.mono HB.out.size)); clear HB hb2; have HB := HB'; clear HB'))
      | (go_at_call 59; ((with_reducible refine (recur_may a0 a1 a2 a3 A4 A5 A6 c4 c5 c6 l4 l5 l6 y d _ d0 m _ (Kd.C_below HR5.out HB.out) hc5 (Kd.C_below HR6.out HB.out) hc6 hl5 hl6 v1 v2 (by omega) (by omega) v5 v6).mono ?_); rintro e w2 ⟨rfl, hb2⟩; obtain ⟨hc2, hf2⟩ := bcell hb2; have hz : w.heap.size < w2.heap.size := Nat.lt_of_lt_of_le hz hb2.size; have HB' := Aside0.mk (HB.out.trans (hb2.mono HB.out.size)); clear HB hb2; have HB := HB'; clear HB')))
  go_ret
  exact ⟨ret_bool HF.out.symm, HB.out⟩
set_option maxRecDepth 100000 in
set_option maxHeartbeats 4000000 in
theorem recur_match_f1aN (a0 a1 a2 a3 : Int) (A4 A5 A6 : Option Addr) (c4 c5 c6 : Nat) (l4 l5 : List Int) (l6 : List S59) (first day y d y0 d0 : Int) (m m0 : Nat) (w : World)
    (hr4 : Kd.C (Kd.int .i64) w A4 l4.length l4) (hc4 : l4.length ≤ c4) (hr5 : Kd.C (Kd.int .i64) w A5 l5.length l5) (hc5 : l5.length ≤ c5) (hr6 : Kd.C k59 w A6 l6.length l6) (hc6 : l6.length ≤ c6)
    (hl4 : l4.length ≤ 1000000000) (hl5 : l5.length ≤ 1000000000) (hl6 : l6.length ≤ 1000000000)
    (hi0 : 1 ≤ a1) (hi1 : a1 ≤ 1000) (hf0 : 0 ≤ first) (hf1 : first ≤ 2932896) (hd0 : 0 ≤ day) (hd1 : day ≤ 2932896) (hcf : Cal.IsCivil first y0 m0 d0) (hcd : Cal.IsCivil day y m d) (hge : first ≤ day) (e4 : l4 ≠ []) (k4 : hasI l4 m = true) (ef : a0 = 1) (hr : ((day - first) % a1 == 0) = true) :
    Calls Tryz.prog 27 #[.agg #[.int .i64 a0, .int .i64 a1, .int .i64 a2, .int .i64 a3, .slice A4 l4.length c4, .slice A5 l5.length c5, .slice A6 l6.length c6], .int .i64 first, .int .i64 day] w fun e w' =>
      e = .returned (.bool (matchS a0 a1 l4 l5 l6 first day y m d y0 m0 d0)) ∧ Below w.heap.size w w' := by
  have hfin : matchS a0 a1 l4 l5 l6 first day y m d y0 m0 d0 = onS l6 ((day + 3) % 7) := by
    unfold matchS
    rw [if_neg (by omega), if_neg (fun h => by rw [k4] at h; exact absurd h.2 (by decide)), if_pos ef, hr, Bool.true_and]
  have HF := Lib.hid hfin
  clear hfin
  have p4 : 0 < l4.length := List.length_pos_iff.mpr e4
  have z4 : decide (0 < l4.length) = true := decide_eq_true p4
  have g1 : (a0 == 1) = true := by rw [ef]; rfl
  clear ef
  have HR4 := Aside0.mk hr4
  have HR5 := Aside0.mk hr5
  have HR6 := Aside0.mk hr6
  have HCF := Aside0.mk hcf
  have HCD := Aside0.mk hcd
  clear hr4 hr5 hr6
  obtain ⟨u1, u2, u3, u4, u5, u6, -⟩ := hcf
  obtain ⟨v1, v2, v3, v4, v5, v6, -⟩ := hcd
  have mlF := mlen_le31 y0 m0
  have mlD := mlen_le31 y m
  have HB := Aside0.mk ((Below.refl w.heap.size w).alloc (Nat.le_refl _) (.cells #[.int .i64 a0, .int .i64 a1, .int .i64 a2, .int .i64 a3, .slice A4 l4.length c4, .slice A5 l5.length c5, .slice A6 l6.length c6] 25))
  have hz : w.heap.size < (w.alloc (.cells #[.int .i64 a0, .int .i64 a1, .int .i64 a2, .int .i64 a3, .slice A4 l4.length c4, .slice A5 l5.length c5, .slice A6 l6.length c6] 25)).heap.size := by simp
  clear e4
  go_enter Tryz.func27, Tryz.ntmps27
  go_wp2_with (first
      | (go_at_call 55; ((with_reducible refine (when_Civil_at hf0 hf1 HCF.out _).mono ?_); rintro e w2 ⟨rfl, hb2⟩; obtain ⟨hc2, hf2⟩ := bcell hb2; have hz : w.heap.size < w2.heap.size := Nat.lt_of_lt_of_le hz hb2.size; have HB' := Aside0.mk (HB.out.trans (hb2.mono HB.out.size)); clear HB hb2; have HB := HB'; clear HB'))
      | (go_at_call 55; ((with_reducible refine (when_Civil_at hd0 hd1 HCD.out _).mono ?_); rintro e w2 ⟨rfl, hb2⟩; obtain ⟨hc2, hf2⟩ := bcell hb2; have hz : w.heap.size < w2.heap.size := Nat.lt_of_lt_of_le hz hb2.size; have HB' := Aside0.mk (HB.out.trans (hb2.mono HB.out.size)); clear HB hb2; have HB := HB'; clear HB'))
      | (go_at_call 56; ((with_reducible refine (date_Weekday first hf0 hf1 _).mono ?_); rintro e w2 ⟨rfl, hb2⟩; obtain ⟨hc2, hf2⟩ := bcell hb2; have hz : w.heap.size < w2.heap.size := Nat.lt_of_lt_of_le hz hb2.size; have HB' := Aside0.mk (HB.out.trans (hb2.mono HB.out.size)); clear HB hb2; have HB := HB'; clear HB'))
      | (go_at_call 56; ((with_reducible refine (date_Weekday day hd0 hd1 _).mono ?_); rintro e w2 ⟨rfl, hb2⟩; obtain ⟨hc2, hf2⟩ := bcell hb2; have hz : w.heap.size < w2.heap.size := Nat.lt_of_lt_of_le hz hb2.size; have HB' := Aside0.mk (HB.out.trans (hb2.mono HB.out.size)); clear HB hb2; have HB := HB'; clear HB'))
      | (go_at_call 57; ((with_reducible refine (contains_int A4 c4 l4 _ _ (Kd.C_below HR4.out HB.out) hc4 hl4).mono ?_); rintro e w2 ⟨rfl, hb2⟩; obtain ⟨hc2, hf2⟩ := bcell hb2; have hz : w.heap.size < w2.heap.size := Nat.lt_of_lt_of_le hz hb2.size; have HB' := Aside0.mk (HB.out.trans (hb2.mono HB.out.size)); clear HB hb2; have HB := HB'; clear HB'))
      | (go_at_call 58; ((with_reducible refine (rule_on a0 a1 a2 a3 A4 A5 A6 c4 c5 c6 l4 l5 l6 _ _ (Kd.C_below HR4.out HB.out) hc4 (Kd.C_below HR5.out HB.out) hc5 (Kd.C_below HR6.out HB.out) hc6 hl6).mono ?_); rintro e w2 ⟨rfl, hb2⟩; obtain ⟨hc2, hf2⟩ := bcell hb2; have hz : w.heap.size < w2.heap.size := Nat.lt_of_lt_of_le hz hb2.size; have HB' := Aside0.mk (HB.out.trans (hb2.mono HB.out.size)); clear HB hb2; have HB := HB'; clear HB'))
      | (go_at_call 59; ((with_reducible refine (recur_may a0 a1 a2 a3 A4 A5 A6 c4 c5 c6 l4 l5 l6 y d _ d0 m _ (Kd.C_below HR5.out HB.out) hc5 (Kd.C_below HR6.out HB.out) hc6 hl5 hl6 v1 v2 (by omega) (by omega) v5 v6).mono ?_); rintro e w2 ⟨rfl, hb2⟩; obtain ⟨hc2, hf2⟩ := bcell hb2; have hz : w.heap.size < w2.heap.size := Nat.lt_of_lt_of_le hz hb2.size; have HB' := Aside0.mk (HB.out.trans (hb2.mono HB.out.size)); clear HB hb2; have HB := HB'; clear HB')))
  go_ret
  exact ⟨ret_bool HF.out.symm, HB.out⟩
set_option maxRecDepth 100000 in
set_option maxHeartbeats 4000000 in
theorem recur_match_f1bN (a0 a1 a2 a3 : Int) (A4 A5 A6 : Option Addr) (c4 c5 c6 : Nat) (l4 l5 : List Int) (l6 : List S59) (first day y d y0 d0 : Int) (m m0 : Nat) (w : World)
    (hr4 : Kd.C (Kd.int .i64) w A4 l4.length l4) (hc4 : l4.length ≤ c4) (hr5 : Kd.C (Kd.int .i64) w A5 l5.length l5) (hc5 : l5.length ≤ c5) (hr6 : Kd.C k59 w A6 l6.length l6) (hc6 : l6.length ≤ c6)
    (hl4 : l4.length ≤ 1000000000) (hl5 : l5.length ≤ 1000000000) (hl6 : l6.length ≤ 1000000000)
    (hi0 : 1 ≤ a1) (hi1 : a1 ≤ 1000) (hf0 : 0 ≤ first) (hf1 : first ≤ 2932896) (hd0 : 0 ≤ day) (hd1 : day ≤ 2932896) (hcf : Cal.IsCivil first y0 m0 d0) (hcd : Cal.IsCivil day y m d) (hge : first ≤ day) (e4 : l4 ≠ []) (k4 : hasI l4 m = true) (ef : a0 = 1) (hr : ((day - first) % a1 == 0) = false) :
    Calls Tryz.prog 27 #[.agg #[.int .i64 a0, .int .i64 a1, .int .i64 a2, .int .i64 a3, .slice A4 l4.length c4, .slice A5 l5.length c5, .slice A6 l6.length c6], .int .i64 first, .int .i64 day] w fun e w' =>
      e = .returned (.bool (matchS a0 a1 l4 l5 l6 first day y m d y0 m0 d0)) ∧ Below w.heap.size w w' := by
  have hfin : matchS a0 a1 l4 l5 l6 first day y m d y0 m0 d0 = false := by
    unfold matchS
    rw [if_neg (by omega), if_neg (fun h => by rw [k4] at h; exact absurd h.2 (by decide)), if_pos ef, hr, Bool.false_and]
  have HF := Lib.hid hfin
  clear hfin
  have p4 : 0 < l4.length := List.length_pos_iff.mpr e4
  have z4 : decide (0 < l4.length) = true := decide_eq_true p4
  have g1 : (a0 == 1) = true := by rw [ef]; rfl
  clear ef
  have HR4 := Aside0.mk hr4
  have HR5 := Aside0.mk hr5
  have HR6 := Aside0.mk hr6
  have HCF := Aside0.mk hcf
  have HCD := Aside0.mk hcd
  clear hr4 hr5 hr6
  obtain ⟨u1, u2, u3, u4, u5, u6, -⟩ := hcf
  obtain ⟨v1, v2, v3, v4, v5, v6, -⟩ := hcd
  have mlF := mlen_le31 y0 m0
  have mlD := mlen_le31 y m
  have HB := Aside0.mk ((Below.refl w.heap.size w).alloc (Nat.le_refl _) (.cells #[.int .i64 a0, .int .i64 a1, .int .i64 a2, .int .i64 a3, .slice A4 l4.length c4, .slice A5 l5.length c5, .slice A6 l6.length c6] 25))
  have hz : w.heap.size < (w.alloc (.cells #[.int .i64 a0, .int .i64 a1, .int .i64 a2, .int .i64 a3, .slice A4 l4.length c4, .slice A5 l5.length c5, .slice A6 l6.length c6] 25)).heap.size := by simp
  clear e4
  go_enter Tryz.func27, Tryz.ntmps27
  go_wp2_with (first
      | (go_at_call 55; ((with_reducible refine (when_Civil_at hf0 hf1 HCF.out _).mono ?_); rintro e w2 ⟨rfl, hb2⟩; obtain ⟨hc2, hf2⟩ := bcell hb2; have hz : w.heap.size < w2.heap.size := Nat.lt_of_lt_of_le hz hb2.size; have HB' := Aside0.mk (HB.out.trans (hb2.mono HB.out.size)); clear HB hb2; have HB := HB'; clear HB'))
      | (go_at_call 55; ((with_reducible refine (when_Civil_at hd0 hd1 HCD.out _).mono ?_); rintro e w2 ⟨rfl, hb2⟩; obtain ⟨hc2, hf2⟩ := bcell hb2; have hz : w.heap.size < w2.heap.size := Nat.lt_of_lt_of_le hz hb2.size; have HB' := Aside0.mk (HB.out.trans (hb2.mono HB.out.size)); clear HB hb2; have HB := HB'; clear HB'))
      | (go_at_call 56; ((with_reducible refine (date_Weekday first hf0 hf1 _).mono ?_); rintro e w2 ⟨rfl, hb2⟩; obtain ⟨hc2, hf2⟩ := bcell hb2; have hz : w.heap.size < w2.heap.size := Nat.lt_of_lt_of_le hz hb2.size; have HB' := Aside0.mk (HB.out.trans (hb2.mono HB.out.size)); clear HB hb2; have HB := HB'; clear HB'))
      | (go_at_call 56; ((with_reducible refine (date_Weekday day hd0 hd1 _).mono ?_); rintro e w2 ⟨rfl, hb2⟩; obtain ⟨hc2, hf2⟩ := bcell hb2; have hz : w.heap.size < w2.heap.size := Nat.lt_of_lt_of_le hz hb2.size; have HB' := Aside0.mk (HB.out.trans (hb2.mono HB.out.size)); clear HB hb2; have HB := HB'; clear HB'))
      | (go_at_call 57; ((with_reducible refine (contains_int A4 c4 l4 _ _ (Kd.C_below HR4.out HB.out) hc4 hl4).mono ?_); rintro e w2 ⟨rfl, hb2⟩; obtain ⟨hc2, hf2⟩ := bcell hb2; have hz : w.heap.size < w2.heap.size := Nat.lt_of_lt_of_le hz hb2.size; have HB' := Aside0.mk (HB.out.trans (hb2.mono HB.out.size)); clear HB hb2; have HB := HB'; clear HB'))
      | (go_at_call 58; ((with_reducible refine (rule_on a0 a1 a2 a3 A4 A5 A6 c4 c5 c6 l4 l5 l6 _ _ (Kd.C_below HR4.out HB.out) hc4 (Kd.C_below HR5.out HB.out) hc5 (Kd.C_below HR6.out HB.out) hc6 hl6).mono ?_); rintro e w2 ⟨rfl, hb2⟩; obtain ⟨hc2, hf2⟩ := bcell hb2; have hz : w.heap.size < w2.heap.size := Nat.lt_of_lt_of_le hz hb2.size; have HB' := Aside0.mk (HB.out.trans (hb2.mono HB.out.size)); clear HB hb2; have HB := HB'; clear HB'))
      | (go_at_call 59; ((with_reducible refine (recur_may a0 a1 a2 a3 A4 A5 A6 c4 c5 c6 l4 l5 l6 y d _ d0 m _ (Kd.C_below HR5.out HB.out) hc5 (Kd.C_below HR6.out HB.out) hc6 hl5 hl6 v1 v2 (by omega) (by omega) v5 v6).mono ?_); rintro e w2 ⟨rfl, hb2⟩; obtain ⟨hc2, hf2⟩ := bcell hb2; have hz : w.heap.size < w2.heap.size := Nat.lt_of_lt_of_le hz hb2.size; have HB' := Aside0.mk (HB.out.trans (hb2.mono HB.out.size)); clear HB hb2; have HB := HB'; clear HB')))
  go_ret
  exact ⟨ret_bool HF.out.symm, HB.out⟩
set_option maxRecDepth 100000 in
set_option maxHeartbeats 4000000 in
theorem recur_match_f2bN (a0 a1 a2 a3 : Int) (A4 A5 A6 : Option Addr) (c4 c5 c6 : Nat) (l4 l5 : List Int) (l6 : List S59) (first day y d y0 d0 : Int) (m m0 : Nat) (w : World)
    (hr4 : Kd.C (Kd.int .i64) w A4 l4.length l4) (hc4 : l4.length ≤ c4) (hr5 : Kd.C (Kd.int .i64) w A5 l5.length l5) (hc5 : l5.length ≤ c5) (hr6 : Kd.C k59 w A6 l6.length l6) (hc6 : l6.length ≤ c6)
    (hl4 : l4.length ≤ 1000000000) (hl5 : l5.length ≤ 1000000000) (hl6 : l6.length ≤ 1000000000)
    (hi0 : 1 ≤ a1) (hi1 : a1 ≤ 1000) (hf0 : 0 ≤ first) (hf1 : first ≤ 2932896) (hd0 : 0 ≤ day) (hd1 : day ≤ 2932896) (hcf : Cal.IsCivil first y0 m0 d0) (hcd : Cal.IsCivil day y m d) (hge : first ≤ day) (e4 : l4 ≠ []) (k4 : hasI l4 m = true) (ef : a0 = 2) (hr : ((day - (day + 3) % 7 - first + (first + 3) % 7) / 7 % a1 == 0) = false) :
    Calls Tryz.prog 27 #[.agg #[.int .i64 a0, .int .i64 a1, .int .i64 a2, .int .i64 a3, .slice A4 l4.length c4, .slice A5 l5.length c5, .slice A6 l6.length c6], .int .i64 first, .int .i64 day] w fun e w' =>
      e = .returned (.bool (matchS a0 a1 l4 l5 l6 first day y m d y0 m0 d0)) ∧ Below w.heap.size w w' := by
  have hfin : matchS a0 a1 l4 l5 l6 first day y m d y0 m0 d0 = false := by
    unfold matchS
    rw [if_neg (by omega), if_neg (fun h => by rw [k4] at h; exact absurd h.2 (by decide)), if_neg (by omega), if_pos ef, hr, Bool.false_and]
  have HF := Lib.hid hfin
  clear hfin
  have p4 : 0 < l4.length := List.length_pos_iff.mpr e4
  have z4 : decide (0 < l4.length) = true := decide_eq_true p4
  have hwk : 0 ≤ day - (day + 3) % 7 - first + (first + 3) % 7 := by omega
  have g1 : (a0 == 1) = false := by rw [ef]; rfl
  have g2 : (a0 == 2) = true := by rw [ef]; rfl
  clear ef
  have HR4 := Aside0.mk hr4
  have HR5 := Aside0.mk hr5
  have HR6 := Aside0.mk hr6
  have HCF := Aside0.mk hcf
  have HCD := Aside0.mk hcd
  clear hr4 hr5 hr6
  obtain ⟨u1, u2, u3, u4, u5, u6, -⟩ := hcf
  obtain ⟨v1, v2, v3, v4, v5, v6, -⟩ := hcd
  have mlF := mlen_le31 y0 m0
  have mlD := mlen_le31 y m
  have HB := Aside0.mk ((Below.refl w.heap.size w).alloc (Nat.le_refl _) (.cells #[.int .i64 a0, .int .i64 a1, .int .i64 a2, .int .i64 a3, .slice A4 l4.length c4, .slice A5 l5.length c5, .slice A6 l6.length c6] 25))
  have hz : w.heap.size < (w.alloc (.cells #[.int .i64 a0, .int .i64 a1, .int .i64 a2, .int .i64 a3, .slice A4 l4.length c4, .slice A5 l5.length c5, .slice A6 l6.length c6] 25)).heap.size := by simp
  clear e4
  go_enter Tryz.func27, Tryz.ntmps27
  go_wp2_with (first
      | (go_at_call 55; ((with_reducible refine (when_Civil_at hf0 hf1 HCF.out _).mono ?_); rintro e w2 ⟨rfl, hb2⟩; obtain ⟨hc2, hf2⟩ := bcell hb2; have hz : w.heap.size < w2.heap.size := Nat.lt_of_lt_of_le hz hb2.size; have HB' := Aside0.mk (HB.out.trans (hb2.mono HB.out.size)); clear HB hb2; have HB := HB'; clear HB'))
      | (go_at_call 55; ((with_reducible refine (when_Civil_at hd0 hd1 HCD.out _).mono ?_); rintro e w2 ⟨rfl, hb2⟩; obtain ⟨hc2, hf2⟩ := bcell hb2; have hz : w.heap.size < w2.heap.size := Nat.lt_of_lt_of_le hz hb2.size; have HB' := Aside0.mk (HB.out.trans (hb2.mono HB.out.size)); clear HB hb2; have HB := HB'; clear HB'))
      | (go_at_call 56; ((with_reducible refine (date_Weekday first hf0 hf1 _).mono ?_); rintro e w2 ⟨rfl, hb2⟩; obtain ⟨hc2, hf2⟩ := bcell hb2; have hz : w.heap.size < w2.heap.size := Nat.lt_of_lt_of_le hz hb2.size; have HB' := Aside0.mk (HB.out.trans (hb2.mono HB.out.size)); clear HB hb2; have HB := HB'; clear HB'))
      | (go_at_call 56; ((with_reducible refine (date_Weekday day hd0 hd1 _).mono ?_); rintro e w2 ⟨rfl, hb2⟩; obtain ⟨hc2, hf2⟩ := bcell hb2; have hz : w.heap.size < w2.heap.size := Nat.lt_of_lt_of_le hz hb2.size; have HB' := Aside0.mk (HB.out.trans (hb2.mono HB.out.size)); clear HB hb2; have HB := HB'; clear HB'))
      | (go_at_call 57; ((with_reducible refine (contains_int A4 c4 l4 _ _ (Kd.C_below HR4.out HB.out) hc4 hl4).mono ?_); rintro e w2 ⟨rfl, hb2⟩; obtain ⟨hc2, hf2⟩ := bcell hb2; have hz : w.heap.size < w2.heap.size := Nat.lt_of_lt_of_le hz hb2.size; have HB' := Aside0.mk (HB.out.trans (hb2.mono HB.out.size)); clear HB hb2; have HB := HB'; clear HB'))
      | (go_at_call 58; ((with_reducible refine (rule_on a0 a1 a2 a3 A4 A5 A6 c4 c5 c6 l4 l5 l6 _ _ (Kd.C_below HR4.out HB.out) hc4 (Kd.C_below HR5.out HB.out) hc5 (Kd.C_below HR6.out HB.out) hc6 hl6).mono ?_); rintro e w2 ⟨rfl, hb2⟩; obtain ⟨hc2, hf2⟩ := bcell hb2; have hz : w.heap.size < w2.heap.size := Nat.lt_of_lt_of_le hz hb2.size; have HB' := Aside0.mk (HB.out.trans (hb2.mono HB.out.size)); clear HB hb2; have HB := HB'; clear HB'))
      | (go_at_call 59; ((with_reducible refine (recur_may a0 a1 a2 a3 A4 A5 A6 c4 c5 c6 l4 l5 l6 y d _ d0 m _ (Kd.C_below HR5.out HB.out) hc5 (Kd.C_below HR6.out HB.out) hc6 hl5 hl6 v1 v2 (by omega) (by omega) v5 v6).mono ?_); rintro e w2 ⟨rfl, hb2⟩; obtain ⟨hc2, hf2⟩ := bcell hb2; have hz : w.heap.size < w2.heap.size := Nat.lt_of_lt_of_le hz hb2.size; have HB' := Aside0.mk (HB.out.trans (hb2.mono HB.out.size)); clear HB hb2; have HB := HB'; clear HB')))
  go_ret
  exact ⟨ret_bool HF.out.symm, HB.out⟩
set_option maxRecDepth 100000 in
set_option maxHeartbeats 4000000 in
theorem recur_match_f2eN (a0 a1 a2 a3 : Int) (A4 A5 A6 : Option Addr) (c4 c5 c6 : Nat) (l4 l5 : List Int) (l6 : List S59) (first day y d y0 d0 : Int) (m m0 : Nat) (w : World)
    (hr4 : Kd.C (Kd.int .i64) w A4 l4.length l4) (hc4 : l4.length ≤ c4) (hr5 : Kd.C (Kd.int .i64) w A5 l5.length l5) (hc5 : l5.length ≤ c5) (hr6 : Kd.C k59 w A6 l6.length l6) (hc6 : l6.length ≤ c6)
    (hl4 : l4.length ≤ 1000000000) (hl5 : l5.length ≤ 1000000000) (hl6 : l6.length ≤ 1000000000)
    (hi0 : 1 ≤ a1) (hi1 : a1 ≤ 1000) (hf0 : 0 ≤ first) (hf1 : first ≤ 2932896) (hd0 : 0 ≤ day) (hd1 : day ≤ 2932896) (hcf : Cal.IsCivil first y0 m0 d0) (hcd : Cal.IsCivil day y m d) (hge : first ≤ day) (e4 : l4 ≠ []) (k4 : hasI l4 m = true) (ef : a0 = 2) (hr : ((day - (day + 3) % 7 - first + (first + 3) % 7) / 7 % a1 == 0) = true) (e6 : l6 = []) :
    Calls Tryz.prog 27 #[.agg #[.int .i64 a0, .int .i64 a1, .int .i64 a2, .int .i64 a3, .slice A4 l4.length c4, .slice A5 l5.length c5, .slice A6 l6.length c6], .int .i64 first, .int .i64 day] w fun e w' =>
      e = .returned (.bool (matchS a0 a1 l4 l5 l6 first day y m d y0 m0 d0)) ∧ Below w.heap.size w w' := by
  have hfin : matchS a0 a1 l4 l5 l6 first day y m d y0 m0 d0 = ((day + 3) % 7 == (first + 3) % 7) := by
    unfold matchS
    rw [if_neg (by omega), if_neg (fun h => by rw [k4] at h; exact absurd h.2 (by decide)), if_neg (by omega), if_pos ef, hr, Bool.true_and, if_pos e6]
  have HF := Lib.hid hfin
  clear hfin
  have p4 : 0 < l4.length := List.length_pos_iff.mpr e4
  have z4 : decide (0 < l4.length) = true := decide_eq_true p4
  have hwk : 0 ≤ day - (day + 3) % 7 - first + (first + 3) % 7 := by omega
  have g1 : (a0 == 1) = false := by rw [ef]; rfl
  have g2 : (a0 == 2) = true := by rw [ef]; rfl
  clear ef
  have y6 : ((l6.length : Int) == 0) = true := by rw [e6]; rfl
  have x6 : decide (0 < l6.length) = false := by rw [e6]; rfl
  clear e6
  have HR4 := Aside0.mk hr4
  have HR5 := Aside0.mk hr5
  have HR6 := Aside0.mk hr6
  have HCF := Aside0.mk hcf
  have HCD := Aside0.mk hcd
  clear hr4 hr5 hr6
  obtain ⟨u1, u2, u3, u4, u5, u6, -⟩ := hcf
  obtain ⟨v1, v2, v3, v4, v5, v6, -⟩ := hcd
  have mlF := mlen_le31 y0 m0
  have mlD := mlen_le31 y m
  have HB := Aside0.mk ((Below.refl w.heap.size w).alloc (Nat.le_refl _) (.cells #[.int .i64 a0, .int .i64 a1, .int .i64 a2, .int .i64 a3, .slice A4 l4.length c4, .slice A5 l5.length c5, .slice A6 l6.length c6] 25))
  have hz : w.heap.size < (w.alloc (.cells #[.int .i64 a0, .int .i64 a1, .int .i64 a2, .int .i64 a3, .slice A4 l4.length c4, .slice A5 l5.length c5, .slice A6 l6.length c6] 25)).heap.size := by simp
  clear e4
  go_enter Tryz.func27, Tryz.ntmps27
  go_wp2_with (first
      | (go_at_call 55; ((with_reducible refine (when_Civil_at hf0 hf1 HCF.out _).mono ?_); rintro e w2 ⟨rfl, hb2⟩; obtain ⟨hc2, hf2⟩ := bcell hb2; have hz : w.heap.size < w2.heap.size := Nat.lt_of_lt_of_le hz hb2.size; have HB' := Aside0.mk (HB.out.trans (hb2.mono HB.out.size)); clear HB hb2; have HB := HB'; clear HB'))
      | (go_at_call 55; ((with_reducible refine (when_Civil_at hd0 hd1 HCD.out _).mono ?_); rintro e w2 ⟨rfl, hb2⟩; obtain ⟨hc2, hf2⟩ := bcell hb2; have hz : w.heap.size < w2.heap.size := Nat.lt_of_lt_of_le hz hb2.size; have HB' := Aside0.mk (HB.out.trans (hb2.mono HB.out.size)); clear HB hb2; have HB := HB'; clear HB'))
      | (go_at_call 56; ((with_reducible refine (date_Weekday first hf0 hf1 _).mono ?_); rintro e w2 ⟨rfl, hb2⟩; obtain ⟨hc2, hf2⟩ := bcell hb2; have hz : w.heap.size < w2.heap.size := Nat.lt_of_lt_of_le hz hb2.size; have HB' := Aside0.mk (HB.out.trans (hb2.mono HB.out.size)); clear HB hb2; have HB := HB'; clear HB'))
      | (go_at_call 56; ((with_reducible refine (date_Weekday day hd0 hd1 _).mono ?_); rintro e w2 ⟨rfl, hb2⟩; obtain ⟨hc2, hf2⟩ := bcell hb2; have hz : w.heap.size < w2.heap.size := Nat.lt_of_lt_of_le hz hb2.size; have HB' := Aside0.mk (HB.out.trans (hb2.mono HB.out.size)); clear HB hb2; have HB := HB'; clear HB'))
      | (go_at_call 57; ((with_reducible refine (contains_int A4 c4 l4 _ _ (Kd.C_below HR4.out HB.out) hc4 hl4).mono ?_); rintro e w2 ⟨rfl, hb2⟩; obtain ⟨hc2, hf2⟩ := bcell hb2; have hz : w.heap.size < w2.heap.size := Nat.lt_of_lt_of_le hz hb2.size; have HB' := Aside0.mk (HB.out.trans (hb2.mono HB.out.size)); clear HB hb2; have HB := HB'; clear HB'))
      | (go_at_call 58; ((with_reducible refine (rule_on a0 a1 a2 a3 A4 A5 A6 c4 c5 c6 l4 l5 l6 _ _ (Kd.C_below HR4.out HB.out) hc4 (Kd.C_below HR5.out HB.out) hc5 (Kd.C_below HR6.out HB.out) hc6 hl6).mono ?_); rintro e w2 ⟨rfl, hb2⟩; obtain ⟨hc2, hf2⟩ := bcell hb2; have hz : w.heap.size < w2.heap.size := Nat.lt_of_lt_of_le hz hb2.size; have HB' := Aside0.mk (HB.out.trans (hb2.mono HB.out.size)); clear HB hb2; have HB := HB'; clear HB'))
      | (go_at_call 59; ((with_reducible refine (recur_may a0 a1 a2 a3 A4 A5 A6 c4 c5 c6 l4 l5 l6 y d _ d0 m _ (Kd.C_below HR5.out HB.out) hc5 (Kd.C_below HR6.out HB.out) hc6 hl5 hl6 v1 v2 (by omega) (by omega) v5 v6).mono ?_); rintro e w2 ⟨rfl, hb2⟩; obtain ⟨hc2, hf2⟩ := bcell hb2; have hz : w.heap.size < w2.heap.size := Nat.lt_of_lt_of_le hz hb2.size; have HB' := Aside0.mk (HB.out.trans (hb2.mono HB.out.size)); clear HB hb2; have HB := HB'; clear HB')))
  go_ret
  exact ⟨ret_bool HF.out.symm, HB.out⟩
set_option maxRecDepth 100000 in
set_option maxHeartbeats 4000000 in
theorem recur_match_f2tN (a0 a1 a2 a3 : Int) (A4 A5 A6 : Option Addr) (c4 c5 c6 : Nat) (l4 l5 : List Int) (l6 : List S59) (first day y d y0 d0 : Int) (m m0 : Nat) (w : World)
    (hr4 : Kd.C (Kd.int .i64) w A4 l4.length l4) (hc4 : l4.length ≤ c4) (hr5 : Kd.C (Kd.int .i64) w A5 l5.length l5) (hc5 : l5.length ≤ c5) (hr6 : Kd.C k59 w A6 l6.length l6) (hc6 : l6.length ≤ c6)
    (hl4 : l4.length ≤ 1000000000) (hl5 : l5.length ≤ 1000000000) (hl6 : l6.length ≤ 1000000000)
    (hi0 : 1 ≤ a1) (hi1 : a1 ≤ 1000) (hf0 : 0 ≤ first) (hf1 : first ≤ 2932896) (hd0 : 0 ≤ day) (hd1 : day ≤ 2932896) (hcf : Cal.IsCivil first y0 m0 d0) (hcd : Cal.IsCivil day y m d) (hge : first ≤ day) (e4 : l4 ≠ []) (k4 : hasI l4 m = true) (ef : a0 = 2) (hr : ((day - (day + 3) % 7 - first + (first + 3) % 7) / 7 % a1 == 0) = true) (e6 : l6 ≠ []) (ho : onS l6 ((day + 3) % 7) = true) :
    Calls Tryz.prog 27 #[.agg #[.int .i64 a0, .int .i64 a1, .int .i64 a2, .int .i64 a3, .slice A4 l4.length c4, .slice A5 l5.length c5, .slice A6 l6.length c6], .int .i64 first, .int .i64 day] w fun e w' =>
      e = .returned (.bool (matchS a0 a1 l4 l5 l6 first day y m d y0 m0 d0)) ∧ Below w.heap.size w w' := by
  have hfin : matchS a0 a1 l4 l5 l6 first day y m d y0 m0 d0 = true := by
    unfold matchS
    rw [if_neg (by omega), if_neg (fun h => by rw [k4] at h; exact absurd h.2 (by decide)), if_neg (by omega), if_pos ef, hr, Bool.true_and, if_neg e6, ho]
  have HF := Lib.hid hfin
  clear hfin
  have p4 : 0 < l4.length := List.length_pos_iff.mpr e4
  have z4 : decide (0 < l4.length) = true := decide_eq_true p4
  have hwk : 0 ≤ day - (day + 3) % 7 - first + (first + 3) % 7 := by omega
  have g1 : (a0 == 1) = false := by rw [ef]; rfl
  have g2 : (a0 == 2) = true := by rw [ef]; rfl
  clear ef
  have p6 : 0 < l6.length := List.length_pos_iff.mpr e6
  have z6 : ((l6.length : Int) == 0) = false := by rw [beq_eq_false_iff_ne]; omega
  have HR4 := Aside0.mk hr4
  have HR5 := Aside0.mk hr5
  have HR6 := Aside0.mk hr6
  have HCF := Aside0.mk hcf
  have HCD := Aside0.mk hcd
  clear hr4 hr5 hr6
  obtain ⟨u1, u2, u3, u4, u5, u6, -⟩ := hcf
  obtain ⟨v1, v2, v3, v4, v5, v6, -⟩ := hcd
  have mlF := mlen_le31 y0 m0
  have mlD := mlen_le31 y m
  have HB := Aside0.mk ((Below.refl w.heap.size w).alloc (Nat.le_refl _) (.cells #[.int .i64 a0, .int .i64 a1, .int .i64 a2, .int .i64 a3, .slice A4 l4.length c4, .slice A5 l5.length c5, .slice A6 l6.length c6] 25))
  have hz : w.heap.size < (w.alloc (.cells #[.int .i64 a0, .int .i64 a1, .int .i64 a2, .int .i64 a3, .slice A4 l4.length c4, .slice A5 l5.length c5, .slice A6 l6.length c6] 25)).heap.size := by simp
  clear e4 e6
  go_enter Tryz.func27, Tryz.ntmps27
  go_wp2_with (first
      | (go_at_call 55; ((with_reducible refine (when_Civil_at hf0 hf1 HCF.out _).mono ?_); rintro e w2 ⟨rfl, hb2⟩; obtain ⟨hc2, hf2⟩ := bcell hb2; have hz : w.heap.size < w2.heap.size := Nat.lt_of_lt_of_le hz hb2.size; have HB' := Aside0.mk (HB.out.trans (hb2.mono HB.out.size)); clear HB hb2; have HB := HB'; clear HB'))
      | (go_at_call 55; ((with_reducible refine (when_Civil_at hd0 hd1 HCD.out _).mono ?_); rintro e w2 ⟨rfl, hb2⟩; obtain ⟨hc2, hf2⟩ := bcell hb2; have hz : w.heap.size < w2.heap.size := Nat.lt_of_lt_of_le hz hb2.size; have HB' := Aside0.mk (HB.out.trans (hb2.mono HB.out.size)); clear HB hb2; have HB := HB'; clear HB'))
      | (go_at_call 56; ((with_reducible refine (date_Weekday first hf0 hf1 _).mono ?_); rintro e w2 ⟨rfl, hb2⟩; obtain ⟨hc2, hf2⟩ := bcell hb2; have hz : w.heap.size < w2.heap.size := Nat.lt_of_lt_of_le hz hb2.size; have HB' := Aside0.mk (HB.out.trans (hb2.mono HB.out.size)); clear HB hb2; have HB := HB'; clear HB'))
      | (go_at_call 56; ((with_reducible refine (date_Weekday day hd0 hd1 _).mono ?_); rintro e w2 ⟨rfl, hb2⟩; obtain ⟨hc2, hf2⟩ := bcell hb2; have hz : w.heap.size < w2.heap.size := Nat.lt_of_lt_of_le hz hb2.size; have HB' := Aside0.mk (HB.out.trans (hb2.mono HB.out.size)); clear HB hb2; have HB := HB'; clear HB'))
      | (go_at_call 57; ((with_reducible refine (contains_int A4 c4 l4 _ _ (Kd.C_below HR4.out HB.out) hc4 hl4).mono ?_); rintro e w2 ⟨rfl, hb2⟩; obtain ⟨hc2, hf2⟩ := bcell hb2; have hz : w.heap.size < w2.heap.size := Nat.lt_of_lt_of_le hz hb2.size; have HB' := Aside0.mk (HB.out.trans (hb2.mono HB.out.size)); clear HB hb2; have HB := HB'; clear HB'))
      | (go_at_call 58; ((with_reducible refine (rule_on a0 a1 a2 a3 A4 A5 A6 c4 c5 c6 l4 l5 l6 _ _ (Kd.C_below HR4.out HB.out) hc4 (Kd.C_below HR5.out HB.out) hc5 (Kd.C_below HR6.out HB.out) hc6 hl6).mono ?_); rintro e w2 ⟨rfl, hb2⟩; obtain ⟨hc2, hf2⟩ := bcell hb2; have hz : w.heap.size < w2.heap.size := Nat.lt_of_lt_of_le hz hb2.size; have HB' := Aside0.mk (HB.out.trans (hb2.mono HB.out.size)); clear HB hb2; have HB := HB'; clear HB'))
      | (go_at_call 59; ((with_reducible refine (recur_may a0 a1 a2 a3 A4 A5 A6 c4 c5 c6 l4 l5 l6 y d _ d0 m _ (Kd.C_below HR5.out HB.out) hc5 (Kd.C_below HR6.out HB.out) hc6 hl5 hl6 v1 v2 (by omega) (by omega) v5 v6).mono ?_); rintro e w2 ⟨rfl, hb2⟩; obtain ⟨hc2, hf2⟩ := bcell hb2; have hz : w.heap.size < w2.heap.size := Nat.lt_of_lt_of_le hz hb2.size; have HB' := Aside0.mk (HB.out.trans (hb2.mono HB.out.size)); clear HB hb2; have HB := HB'; clear HB')))
  go_ret
  exact ⟨ret_bool HF.out.symm, HB.out⟩
set_option maxRecDepth 100000 in
set_option maxHeartbeats 4000000 in
theorem recur_match_f2fN (a0 a1 a2 a3 : Int) (A4 A5 A6 : Option Addr) (c4 c5 c6 : Nat) (l4 l5 : List Int) (l6 : List S59) (first day y d y0 d0 : Int) (m m0 : Nat) (w : World)
    (hr4 : Kd.C (Kd.int .i64) w A4 l4.length l4) (hc4 : l4.length ≤ c4) (hr5 : Kd.C (Kd.int .i64) w A5 l5.length l5) (hc5 : l5.length ≤ c5) (hr6 : Kd.C k59 w A6 l6.length l6) (hc6 : l6.length ≤ c6)
    (hl4 : l4.length ≤ 1000000000) (hl5 : l5.length ≤ 1000000000) (hl6 : l6.length ≤ 1000000000)
    (hi0 : 1 ≤ a1) (hi1 : a1 ≤ 1000) (hf0 : 0 ≤ first) (hf1 : first ≤ 2932896) (hd0 : 0 ≤ day) (hd1 : day ≤ 2932896) (hcf : Cal.IsCivil first y0 m0 d0) (hcd : Cal.IsCivil day y m d) (hge : first ≤ day) (e4 : l4 ≠ []) (k4 : hasI l4 m = true) (ef : a0 = 2) (hr : ((day - (day + 3) % 7 - first + (first + 3) % 7) / 7 % a1 == 0) = true) (e6 : l6 ≠ []) (ho : onS l6 ((day + 3) % 7) = false) :
    Calls Tryz.prog 27 #[.agg #[.int .i64 a0, .int .i64 a1, .int .i64 a2, .int .i64 a3, .slice A4 l4.length c4, .slice A5 l5.length c5, .slice A6 l6.length c6], .int .i64 first, .int .i64 day] w fun e w' =>
      e = .returned (.bool (matchS a0 a1 l4 l5 l6 first day y m d y0 m0 d0)) ∧ Below w.heap.size w w' := by
  have hfin : matchS a0 a1 l4 l5 l6 first day y m d y0 m0 d0 = false := by
    unfold matchS
    rw [if_neg (by omega), if_neg (fun h => by rw [k4] at h; exact absurd h.2 (by decide)), if_neg (by omega), if_pos ef, hr, Bool.true_and, if_neg e6, ho]
  have HF := Lib.hid hfin
  clear hfin
  have p4 : 0 < l4.length := List.length_pos_iff.mpr e4
  have z4 : decide (0 < l4.length) = true := decide_eq_true p4
  have hwk : 0 ≤ day - (day + 3) % 7 - first + (first + 3) % 7 := by omega
  have g1 : (a0 == 1) = false := by rw [ef]; rfl
  have g2 : (a0 == 2) = true := by rw [ef]; rfl
  clear ef
  have p6 : 0 < l6.length := List.length_pos_iff.mpr e6
  have z6 : ((l6.length : Int) == 0) = false := by rw [beq_eq_false_iff_ne]; omega
  have HR4 := Aside0.mk hr4
  have HR5 := Aside0.mk hr5
  have HR6 := Aside0.mk hr6
  have HCF := Aside0.mk hcf
  have HCD := Aside0.mk hcd
  clear hr4 hr5 hr6
  obtain ⟨u1, u2, u3, u4, u5, u6, -⟩ := hcf
  obtain ⟨v1, v2, v3, v4, v5, v6, -⟩ := hcd
  have mlF := mlen_le31 y0 m0
  have mlD := mlen_le31 y m
  have HB := Aside0.mk ((Below.refl w.heap.size w).alloc (Nat.le_refl _) (.cells #[.int .i64 a0, .int .i64 a1, .int .i64 a2, .int .i64 a3, .slice A4 l4.length c4, .slice A5 l5.length c5, .slice A6 l6.length c6] 25))
  have hz : w.heap.size < (w.alloc (.cells #[.int .i64 a0, .int .i64 a1, .int .i64 a2, .int .i64 a3, .slice A4 l4.length c4, .slice A5 l5.length c5, .slice A6 l6.length c6] 25)).heap.size := by simp
  clear e4 e6
  go_enter Tryz.func27, Tryz.ntmps27
  go_wp2_with (first
      | (go_at_call 55; ((with_reducible refine (when_Civil_at hf0 hf1 HCF.out _).mono ?_); rintro e w2 ⟨rfl, hb2⟩; obtain ⟨hc2, hf2⟩ := bcell hb2; have hz : w.heap.size < w2.heap.size := Nat.lt_of_lt_of_le hz hb2.size; have HB' := Aside0.mk (HB.out.trans (hb2.mono HB.out.size)); clear HB hb2; have HB := HB'; clear HB'))
      | (go_at_call 55; ((with_reducible refine (when_Civil_at hd0 hd1 HCD.out _).mono ?_); rintro e w2 ⟨rfl, hb2⟩; obtain ⟨hc2, hf2⟩ := bcell hb2; have hz : w.heap.size < w2.heap.size := Nat.lt_of_lt_of_le hz hb2.size; have HB' := Aside0.mk (HB.out.trans (hb2.mono HB.out.size)); clear HB hb2; have HB := HB'; clear HB'))
      | (go_at_call 56; ((with_reducible refine (date_Weekday first hf0 hf1 _).mono ?_); rintro e w2 ⟨rfl, hb2⟩; obtain ⟨hc2, hf2⟩ := bcell hb2; have hz : w.heap.size < w2.heap.size := Nat.lt_of_lt_of_le hz hb2.size; have HB' := Aside0.mk (HB.out.trans (hb2.mono HB.out.size)); clear HB hb2; have HB := HB'; clear HB'))
      | (go_at_call 56; ((with_reducible refine (date_Weekday day hd0 hd1 _).mono ?_); rintro e w2 ⟨rfl, hb2⟩; obtain ⟨hc2, hf2⟩ := bcell hb2; have hz : w.heap.size < w2.heap.size := Nat.lt_of_lt_of_le hz hb2.size; have HB' := Aside0.mk (HB.out.trans (hb2.mono HB.out.size)); clear HB hb2; have HB := HB'; clear HB'))
      | (go_at_call 57; ((with_reducible refine (contains_int A4 c4 l4 _ _ (Kd.C_below HR4.out HB.out) hc4 hl4).mono ?_); rintro e w2 ⟨rfl, hb2⟩; obtain ⟨hc2, hf2⟩ := bcell hb2; have hz : w.heap.size < w2.heap.size := Nat.lt_of_lt_of_le hz hb2.size; have HB' := Aside0.mk (HB.out.trans (hb2.mono HB.out.size)); clear HB hb2; have HB := HB'; clear HB'))
      | (go_at_call 58; ((with_reducible refine (rule_on a0 a1 a2 a3 A4 A5 A6 c4 c5 c6 l4 l5 l6 _ _ (Kd.C_below HR4.out HB.out) hc4 (Kd.C_below HR5.out HB.out) hc5 (Kd.C_below HR6.out HB.out) hc6 hl6).mono ?_); rintro e w2 ⟨rfl, hb2⟩; obtain ⟨hc2, hf2⟩ := bcell hb2; have hz : w.heap.size < w2.heap.size := Nat.lt_of_lt_of_le hz hb2.size; have HB' := Aside0.mk (HB.out.trans (hb2.mono HB.out.size)); clear HB hb2; have HB := HB'; clear HB'))
      | (go_at_call 59; ((with_reducible refine (recur_may a0 a1 a2 a3 A4 A5 A6 c4 c5 c6 l4 l5 l6 y d _ d0 m _ (Kd.C_below HR5.out HB.out) hc5 (Kd.C_below HR6.out HB.out) hc6 hl5 hl6 v1 v2 (by omega) (by omega) v5 v6).mono ?_); rintro e w2 ⟨rfl, hb2⟩; obtain ⟨hc2, hf2⟩ := bcell hb2; have hz : w.heap.size < w2.heap.size := Nat.lt_of_lt_of_le hz hb2.size; have HB' := Aside0.mk (HB.out.trans (hb2.mono HB.out.size)); clear HB hb2; have HB := HB'; clear HB')))
  go_ret
  exact ⟨ret_bool HF.out.symm, HB.out⟩
set_option maxRecDepth 100000 in
set_option maxHeartbeats 4000000 in
theorem recur_match_f3aN (a0 a1 a2 a3 : Int) (A4 A5 A6 : Option Addr) (c4 c5 c6 : Nat) (l4 l5 : List Int) (l6 : List S59) (first day y d y0 d0 : Int) (m m0 : Nat) (w : World)
    (hr4 : Kd.C (Kd.int .i64) w A4 l4.length l4) (hc4 : l4.length ≤ c4) (hr5 : Kd.C (Kd.int .i64) w A5 l5.length l5) (hc5 : l5.length ≤ c5) (hr6 : Kd.C k59 w A6 l6.length l6) (hc6 : l6.length ≤ c6)
    (hl4 : l4.length ≤ 1000000000) (hl5 : l5.length ≤ 1000000000) (hl6 : l6.length ≤ 1000000000)
    (hi0 : 1 ≤ a1) (hi1 : a1 ≤ 1000) (hf0 : 0 ≤ first) (hf1 : first ≤ 2932896) (hd0 : 0 ≤ day) (hd1 : day ≤ 2932896) (hcf : Cal.IsCivil first y0 m0 d0) (hcd : Cal.IsCivil day y m d) (hge : first ≤ day) (e4 : l4 ≠ []) (k4 : hasI l4 m = true) (ef : a0 = 3) (hr : ((12 * (y - y0) + (m : Int) - (m0 : Int)) % a1 == 0) = true) :
    Calls Tryz.prog 27 #[.agg #[.int .i64 a0, .int .i64 a1, .int .i64 a2, .int .i64 a3, .slice A4 l4.length c4, .slice A5 l5.length c5, .slice A6 l6.length c6], .int .i64 first, .int .i64 day] w fun e w' =>
      e = .returned (.bool (matchS a0 a1 l4 l5 l6 first day y m d y0 m0 d0)) ∧ Below w.heap.size w w' := by
  have hfin : matchS a0 a1 l4 l5 l6 first day y m d y0 m0 d0 = mayS l5 l6 (Cal.mlen y m) d ((day + 3) % 7) d0 := by
    unfold matchS
    rw [if_neg (by omega), if_neg (fun h => by rw [k4] at h; exact absurd h.2 (by decide)), if_neg (by omega), if_neg (by omega), if_pos ef, hr, Bool.true_and]
  have HF := Lib.hid hfin
  clear hfin
  have p4 : 0 < l4.length := List.length_pos_iff.mpr e4
  have z4 : decide (0 < l4.length) = true := decide_eq_true p4
  obtain ⟨hy, hm12⟩ := hcf.mono hcd hge
  have hmm : 0 ≤ 12 * (y - y0) + (m : Int) - (m0 : Int) := by omega
  clear hm12
  have g1 : (a0 == 1) = false := by rw [ef]; rfl
  have g2 : (a0 == 2) = false := by rw [ef]; rfl
  have g3 : (a0 == 3) = true := by rw [ef]; rfl
  clear ef
  have HR4 := Aside0.mk hr4
  have HR5 := Aside0.mk hr5
  have HR6 := Aside0.mk hr6
  have HCF := Aside0.mk hcf
  have HCD := Aside0.mk hcd
  clear hr4 hr5 hr6
  obtain ⟨u1, u2, u3, u4, u5, u6, -⟩ := hcf
  obtain ⟨v1, v2, v3, v4, v5, v6, -⟩ := hcd
  have mlF := mlen_le31 y0 m0
  have mlD := mlen_le31 y m
  have HB := Aside0.mk ((Below.refl w.heap.size w).alloc (Nat.le_refl _) (.cells #[.int .i64 a0, .int .i64 a1, .int .i64 a2, .int .i64 a3, .slice A4 l4.length c4, .slice A5 l5.length c5, .slice A6 l6.length c6] 25))
  have hz : w.heap.size < (w.alloc (.cells #[.int .i64 a0, .int .i64 a1, .int .i64 a2, .int .i64 a3, .slice A4 l4.length c4, .slice A5 l5.length c5, .slice A6 l6.length c6] 25)).heap.size := by simp
  clear e4
  go_enter Tryz.func27, Tryz.ntmps27
  go_wp2_with (first
      | (go_at_call 55; ((with_reducible refine (when_Civil_at hf0 hf1 HCF.out _).mono ?_); rintro e w2 ⟨rfl, hb2⟩; obtain ⟨hc2, hf2⟩ := bcell hb2; have hz : w.heap.size < w2.heap.size := Nat.lt_of_lt_of_le hz hb2.size; have HB' := Aside0.mk (HB.out.trans (hb2.mono HB.out.size)); clear HB hb2; have HB := HB'; clear HB'))
      | (go_at_call 55; ((with_reducible refine (when_Civil_at hd0 hd1 HCD.out _).mono ?_); rintro e w2 ⟨rfl, hb2⟩; obtain ⟨hc2, hf2⟩ := bcell hb2; have hz : w.heap.size < w2.heap.size := Nat.lt_of_lt_of_le hz hb2.size; have HB' := Aside0.mk (HB.out.trans (hb2.mono HB.out.size)); clear HB hb2; have HB := HB'; clear HB'))
      | (go_at_call 56; ((with_reducible refine (date_Weekday first hf0 hf1 _).mono ?_); rintro e w2 ⟨rfl, hb2⟩; obtain ⟨hc2, hf2⟩ := bcell hb2; have hz : w.heap.size < w2.heap.size := Nat.lt_of_lt_of_le hz hb2.size; have HB' := Aside0.mk (HB.out.trans (hb2.mono HB.out.size)); clear HB hb2; have HB := HB'; clear HB'))
      | (go_at_call 56; ((with_reducible refine (date_Weekday day hd0 hd1 _).mono ?_); rintro e w2 ⟨rfl, hb2⟩; obtain ⟨hc2, hf2⟩ := bcell hb2; have hz : w.heap.size < w2.heap.size := Nat.lt_of_lt_of_le hz hb2.size; have HB' := Aside0.mk (HB.out.trans (hb2.mono HB.out.size)); clear HB hb2; have HB := HB'; clear HB'))
      | (go_at_call 57; ((with_reducible refine (contains_int A4 c4 l4 _ _ (Kd.C_below HR4.out HB.out) hc4 hl4).mono ?_); rintro e w2 ⟨rfl, hb2⟩; obtain ⟨hc2, hf2⟩ := bcell hb2; have hz : w.heap.size < w2.heap.size := Nat.lt_of_lt_of_le hz hb2.size; have HB' := Aside0.mk (HB.out.trans (hb2.mono HB.out.size)); clear HB hb2; have HB := HB'; clear HB'))
      | (go_at_call 58; ((with_reducible refine (rule_on a0 a1 a2 a3 A4 A5 A6 c4 c5 c6 l4 l5 l6 _ _ (Kd.C_below HR4.out HB.out) hc4 (Kd.C_below HR5.out HB.out) hc5 (Kd.C_below HR6.out HB.out) hc6 hl6).mono ?_); rintro e w2 ⟨rfl, hb2⟩; obtain ⟨hc2, hf2⟩ := bcell hb2; have hz : w.heap.size < w2.heap.size := Nat.lt_of_lt_of_le hz hb2.size; have HB' := Aside0.mk (HB.out.trans (hb2.mono HB.out.size)); clear HB hb2; have HB := HB'; clear HB'))
      | (go_at_call 59; ((with_reducible refine (recur_may a0 a1 a2 a3 A4 A5 A6 c4 c5 c6 l4 l5 l6 y d _ d0 m _ (Kd.C_below HR5.out HB.out) hc5 (Kd.C_below HR6.out HB.out) hc6 hl5 hl6 v1 v2 (by omega) (by omega) v5 v6).mono ?_); rintro e w2 ⟨rfl, hb2⟩; obtain ⟨hc2, hf2⟩ := bcell hb2; have hz : w.heap.size < w2.heap.size := Nat.lt_of_lt_of_le hz hb2.size; have HB' := Aside0.mk (HB.out.trans (hb2.mono HB.out.size)); clear HB hb2; have HB := HB'; clear HB')))
  go_ret
  exact ⟨ret_bool HF.out.symm, HB.out⟩
set_option maxRecDepth 100000 in
set_option maxHeartbeats 4000000 in
theorem recur_match_f3bN (a0 a1 a2 a3 : Int) (A4 A5 A6 : Option Addr) (c4 c5 c6 : Nat) (l4 l5 : List Int) (l6 : List S59) (first day y d y0 d0 : Int) (m m0 : Nat) (w : World)
    (hr4 : Kd.C (Kd.int .i64) w A4 l4.length l4) (hc4 : l4.length ≤ c4) (hr5 : Kd.C (Kd.int .i64) w A5 l5.length l5) (hc5 : l5.length ≤ c5) (hr6 : Kd.C k59 w A6 l6.length l6) (hc6 : l6.length ≤ c6)
    (hl4 : l4.length ≤ 1000000000) (hl5 : l5.length ≤ 1000000000) (hl6 : l6.length ≤ 1000000000)
    (hi0 : 1 ≤ a1) (hi1 : a1 ≤ 1000) (hf0 : 0 ≤ first) (hf1 : first ≤ 2932896) (hd0 : 0 ≤ day) (hd1 : day ≤ 2932896) (hcf : Cal.IsCivil first y0 m0 d0) (hcd : Cal.IsCivil day y m d) (hge : first ≤ day) (e4 : l4 ≠ []) (k4 : hasI l4 m = true) (ef : a0 = 3) (hr : ((12 * (y - y0) + (m : Int) - (m0 : Int)) % a1 == 0) = false) :
    Calls Tryz.prog 27 #[.agg #[.int .i64 a0, .int .i64 a1, .int .i64 a2, .int .i64 a3, .slice A4 l4.length c4, .slice A5 l5.length c5, .slice A6 l6.length c6], .int .i64 first, .int .i64 day] w fun e w' =>
      e = .returned (.bool (matchS a0 a1 l4 l5 l6 first day y m d y0 m0 d0)) ∧ Below w.heap.size w w' := by
  have hfin : matchS a0 a1 l4 l5 l6 first day y m d y0 m0 d0 = false := by
    unfold matchS
    rw [if_neg (by omega), if_neg (fun h => by rw [k4] at h; exact absurd h.2 (by decide)), if_neg (by omega), if_neg (by omega), if_pos ef, hr, Bool.false_and]
  have HF := Lib.hid hfin
  clear hfin
  have p4 : 0 < l4.length := List.length_pos_iff.mpr e4
  have z4 : decide (0 < l4.length) = true := decide_eq_true p4
  obtain ⟨hy, hm12⟩ := hcf.mono hcd hge
  have hmm : 0 ≤ 12 * (y - y0) + (m : Int) - (m0 : Int) := by omega
  clear hm12
  have g1 : (a0 == 1) = false := by rw [ef]; rfl
  have g2 : (a0 == 2) = false := by rw [ef]; rfl
  have g3 : (a0 == 3) = true := by rw [ef]; rfl
  clear ef
  have HR4 := Aside0.mk hr4
  have HR5 := Aside0.mk hr5
  have HR6 := Aside0.mk hr6
  have HCF := Aside0.mk hcf
  have HCD := Aside0.mk hcd
  clear hr4 hr5 hr6
  obtain ⟨u1, u2, u3, u4, u5, u6, -⟩ := hcf
  obtain ⟨v1, v2, v3, v4, v5, v6, -⟩ := hcd
  have mlF := mlen_le31 y0 m0
  have mlD := mlen_le31 y m
  have HB := Aside0.mk ((Below.refl w.heap.size w).alloc (Nat.le_refl _) (.cells #[.int .i64 a0, .int .i64 a1, .int .i64 a2, .int .i64 a3, .slice A4 l4.length c4, .slice A5 l5.length c5, .slice A6 l6.length c6] 25))
  have hz : w.heap.size < (w.alloc (.cells #[.int .i64 a0, .int .i64 a1, .int .i64 a2, .int .i64 a3, .slice A4 l4.length c4, .slice A5 l5.length c5, .slice A6 l6.length c6] 25)).heap.size := by simp
  clear e4
  go_enter Tryz.func27, Tryz.ntmps27
  go_wp2_with (first
      | (go_at_call 55; ((with_reducible refine (when_Civil_at hf0 hf1 HCF.out _).mono ?_); rintro e w2 ⟨rfl, hb2⟩; obtain ⟨hc2, hf2⟩ := bcell hb2; have hz : w.heap.size < w2.heap.size := Nat.lt_of_lt_of_le hz hb2.size; have HB' := Aside0.mk (HB.out.trans (hb2.mono HB.out.size)); clear HB hb2; have HB := HB'; clear HB'))
      | (go_at_call 55; ((with_reducible refine (when_Civil_at hd0 hd1 HCD.out _).mono ?_); rintro e w2 ⟨rfl, hb2⟩; obtain ⟨hc2, hf2⟩ := bcell hb2; have hz : w.heap.size < w2.heap.size := Nat.lt_of_lt_of_le hz hb2.size; have HB' := Aside0.mk (HB.out.trans (hb2.mono HB.out.size)); clear HB hb2; have HB := HB'; clear HB'))
      | (go_at_call 56; ((with_reducible refine (date_Weekday first hf0 hf1 _).mono ?_); rintro e w2 ⟨rfl, hb2⟩; obtain ⟨hc2, hf2⟩ := bcell hb2; have hz : w.heap.size < w2.heap.size := Nat.lt_of_lt_of_le hz hb2.size; have HB' := Aside0.mk (HB.out.trans (hb2.mono HB.out.size)); clear HB hb2; have HB := HB'; clear HB'))
      | (go_at_call 56; ((with_reducible refine (date_Weekday day hd0 hd1 _).mono ?_); rintro e w2 ⟨rfl, hb2⟩; obtain ⟨hc2, hf2⟩ := bcell hb2; have hz : w.heap.size < w2.heap.size := Nat.lt_of_lt_of_le hz hb2.size; have HB' := Aside0.mk (HB.out.trans (hb2.mono HB.out.size)); clear HB hb2; have HB := HB'; clear HB'))
      | (go_at_call 57; ((with_reducible refine (contains_int A4 c4 l4 _ _ (Kd.C_below HR4.out HB.out) hc4 hl4).mono ?_); rintro e w2 ⟨rfl, hb2⟩; obtain ⟨hc2, hf2⟩ := bcell hb2; have hz : w.heap.size < w2.heap.size := Nat.lt_of_lt_of_le hz hb2.size; have HB' := Aside0.mk (HB.out.trans (hb2.mono HB.out.size)); clear HB hb2; have HB := HB'; clear HB'))
      | (go_at_call 58; ((with_reducible refine (rule_on a0 a1 a2 a3 A4 A5 A6 c4 c5 c6 l4 l5 l6 _ _ (Kd.C_below HR4.out HB.out) hc4 (Kd.C_below HR5.out HB.out) hc5 (Kd.C_below HR6.out HB.out) hc6 hl6).mono ?_); rintro e w2 ⟨rfl, hb2⟩; obtain ⟨hc2, hf2⟩ := bcell hb2; have hz : w.heap.size < w2.heap.size := Nat.lt_of_lt_of_le hz hb2.size; have HB' := Aside0.mk (HB.out.trans (hb2.mono HB.out.size)); clear HB hb2; have HB := HB'; clear HB'))
      | (go_at_call 59; ((with_reducible refine (recur_may a0 a1 a2 a3 A4 A5 A6 c4 c5 c6 l4 l5 l6 y d _ d0 m _ (Kd.C_below HR5.out HB.out) hc5 (Kd.C_below HR6.out HB.out) hc6 hl5 hl6 v1 v2 (by omega) (by omega) v5 v6).mono ?_); rintro e w2 ⟨rfl, hb2⟩; obtain ⟨hc2, hf2⟩ := bcell hb2; have hz : w.heap.size < w2.heap.size := Nat.lt_of_lt_of_le hz hb2.size; have HB' := Aside0.mk (HB.out.trans (hb2.mono HB.out.size)); clear HB hb2; have HB := HB'; clear HB')))
  go_ret
  exact ⟨ret_bool HF.out.symm, HB.out⟩
set_option maxRecDepth 100000 in
set_option maxHeartbeats 4000000 in
theorem recur_match_f4bN (a0 a1 a2 a3 : Int) (A4 A5 A6 : Option Addr) (c4 c5 c6 : Nat) (l4 l5 : List Int) (l6 : List S59) (first day y d y0 d0 : Int) (m m0 : Nat) (w : World)
    (hr4 : Kd.C (Kd.int .i64) w A4 l4.length l4) (hc4 : l4.length ≤ c4) (hr5 : Kd.C (Kd.int .i64) w A5 l5.length l5) (hc5 : l5.length ≤ c5) (hr6 : Kd.C k59 w A6 l6.length l6) (hc6 : l6.length ≤ c6)
    (hl4 : l4.length ≤ 1000000000) (hl5 : l5.length ≤ 1000000000) (hl6 : l6.length ≤ 1000000000)
    (hi0 : 1 ≤ a1) (hi1 : a1 ≤ 1000) (hf0 : 0 ≤ first) (hf1 : first ≤ 2932896) (hd0 : 0 ≤ day) (hd1 : day ≤ 2932896) (hcf : Cal.IsCivil first y0 m0 d0) (hcd : Cal.IsCivil day y m d) (hge : first ≤ day) (e4 : l4 ≠ []) (k4 : hasI l4 m = true) (ef : a0 = 4) (hr : ((y - y0) % a1 == 0) = false) :
    Calls Tryz.prog 27 #[.agg #[.int .i64 a0, .int .i64 a1, .int .i64 a2, .int .i64 a3, .slice A4 l4.length c4, .slice A5 l5.length c5, .slice A6 l6.length c6], .int .i64 first, .int .i64 day] w fun e w' =>
      e = .returned (.bool (matchS a0 a1 l4 l5 l6 first day y m d y0 m0 d0)) ∧ Below w.heap.size w w' := by
  have hfin : matchS a0 a1 l4 l5 l6 first day y m d y0 m0 d0 = false := by
    unfold matchS
    rw [if_neg (by omega), if_neg (fun h => by rw [k4] at h; exact absurd h.2 (by decide)), if_neg (by omega), if_neg (by omega), if_neg (by omega), hr, Bool.false_and, Bool.false_and]
  have HF := Lib.hid hfin
  clear hfin
  have p4 : 0 < l4.length := List.length_pos_iff.mpr e4
  have z4 : decide (0 < l4.length) = true := decide_eq_true p4
  obtain ⟨hy, hm12⟩ := hcf.mono hcd hge
  clear hm12
  have g1 : (a0 == 1) = false := by rw [ef]; rfl
  have g2 : (a0 == 2) = false := by rw [ef]; rfl
  have g3 : (a0 == 3) = false := by rw [ef]; rfl
  clear ef
  have HR4 := Aside0.mk hr4
  have HR5 := Aside0.mk hr5
  have HR6 := Aside0.mk hr6
  have HCF := Aside0.mk hcf
  have HCD := Aside0.mk hcd
  clear hr4 hr5 hr6
  obtain ⟨u1, u2, u3, u4, u5, u6, -⟩ := hcf
  obtain ⟨v1, v2, v3, v4, v5, v6, -⟩ := hcd
  have mlF := mlen_le31 y0 m0
  have mlD := mlen_le31 y m
  have HB := Aside0.mk ((Below.refl w.heap.size w).alloc (Nat.le_refl _) (.cells #[.int .i64 a0, .int .i64 a1, .int .i64 a2, .int .i64 a3, .slice A4 l4.length c4, .slice A5 l5.length c5, .slice A6 l6.length c6] 25))
  have hz : w.heap.size < (w.alloc (.cells #[.int .i64 a0, .int .i64 a1, .int .i64 a2, .int .i64 a3, .slice A4 l4.length c4, .slice A5 l5.length c5, .slice A6 l6.length c6] 25)).heap.size := by simp
  clear e4
  go_enter Tryz.func27, Tryz.ntmps27
  go_wp2_with (first
      | (go_at_call 55; ((with_reducible refine (when_Civil_at hf0 hf1 HCF.out _).mono ?_); rintro e w2 ⟨rfl, hb2⟩; obtain ⟨hc2, hf2⟩ := bcell hb2; have hz : w.heap.size < w2.heap.size := Nat.lt_of_lt_of_le hz hb2.size; have HB' := Aside0.mk (HB.out.trans (hb2.mono HB.out.size)); clear HB hb2; have HB := HB'; clear HB'))
      | (go_at_call 55; ((with_reducible refine (when_Civil_at hd0 hd1 HCD.out _).mono ?_); rintro e w2 ⟨rfl, hb2⟩; obtain ⟨hc2, hf2⟩ := bcell hb2; have hz : w.heap.size < w2.heap.size := Nat.lt_of_lt_of_le hz hb2.size; have HB' := Aside0.mk (HB.out.trans (hb2.mono HB.out.size)); clear HB hb2; have HB := HB'; clear HB'))
      | (go_at_call 56; ((with_reducible refine (date_Weekday first hf0 hf1 _).mono ?_); rintro e w2 ⟨rfl, hb2⟩; obtain ⟨hc2, hf2⟩ := bcell hb2; have hz : w.heap.size < w2.heap.size := Nat.lt_of_lt_of_le hz hb2.size; have HB' := Aside0.mk (HB.out.trans (hb2.mono HB.out.size)); clear HB hb2; have HB := HB'; clear HB'))
      | (go_at_call 56; ((with_reducible refine (date_Weekday day hd0 hd1 _).mono ?_); rintro e w2 ⟨rfl, hb2⟩; obtain ⟨hc2, hf2⟩ := bcell hb2; have hz : w.heap.size < w2.heap.size := Nat.lt_of_lt_of_le hz hb2.size; have HB' := Aside0.mk (HB.out.trans (hb2.mono HB.out.size)); clear HB hb2; have HB := HB'; clear HB'))
      | (go_at_call 57; ((with_reducible refine (contains_int A4 c4 l4 _ _ (Kd.C_below HR4.out HB.out) hc4 hl4).mono ?_); rintro e w2 ⟨rfl, hb2⟩; obtain ⟨hc2, hf2⟩ := bcell hb2; have hz : w.heap.size < w2.heap.size := Nat.lt_of_lt_of_le hz hb2.size; have HB' := Aside0.mk (HB.out.trans (hb2.mono HB.out.size)); clear HB hb2; have HB := HB'; clear HB'))
      | (go_at_call 58; ((with_reducible refine (rule_on a0 a1 a2 a3 A4 A5 A6 c4 c5 c6 l4 l5 l6 _ _ (Kd.C_below HR4.out HB.out) hc4 (Kd.C_below HR5.out HB.out) hc5 (Kd.C_below HR6.out HB.out) hc6 hl6).mono ?_); rintro e w2 ⟨rfl, hb2⟩; obtain ⟨hc2, hf2⟩ := bcell hb2; have hz : w.heap.size < w2.heap.size := Nat.lt_of_lt_of_le hz hb2.size; have HB' := Aside0.mk (HB.out.trans (hb2.mono HB.out.size)); clear HB hb2; have HB := HB'; clear HB'))
      | (go_at_call 59; ((with_reducible refine (recur_may a0 a1 a2 a3 A4 A5 A6 c4 c5 c6 l4 l5 l6 y d _ d0 m _ (Kd.C_below HR5.out HB.out) hc5 (Kd.C_below HR6.out HB.out) hc6 hl5 hl6 v1 v2 (by omega) (by omega) v5 v6).mono ?_); rintro e w2 ⟨rfl, hb2⟩; obtain ⟨hc2, hf2⟩ := bcell hb2; have hz : w.heap.size < w2.heap.size := Nat.lt_of_lt_of_le hz hb2.size; have HB' := Aside0.mk (HB.out.trans (hb2.mono HB.out.size)); clear HB hb2; have HB := HB'; clear HB')))
  go_ret
  exact ⟨ret_bool HF.out.symm, HB.out⟩
set_option maxRecDepth 100000 in
set_option maxHeartbeats 4000000 in
theorem recur_match_f4aN (a0 a1 a2 a3 : Int) (A4 A5 A6 : Option Addr) (c4 c5 c6 : Nat) (l4 l5 : List Int) (l6 : List S59) (first day y d y0 d0 : Int) (m m0 : Nat) (w : World)
    (hr4 : Kd.C (Kd.int .i64) w A4 l4.length l4) (hc4 : l4.length ≤ c4) (hr5 : Kd.C (Kd.int .i64) w A5 l5.length l5) (hc5 : l5.length ≤ c5) (hr6 : Kd.C k59 w A6 l6.length l6) (hc6 : l6.length ≤ c6)
    (hl4 : l4.length ≤ 1000000000) (hl5 : l5.length ≤ 1000000000) (hl6 : l6.length ≤ 1000000000)
    (hi0 : 1 ≤ a1) (hi1 : a1 ≤ 1000) (hf0 : 0 ≤ first) (hf1 : first ≤ 2932896) (hd0 : 0 ≤ day) (hd1 : day ≤ 2932896) (hcf : Cal.IsCivil first y0 m0 d0) (hcd : Cal.IsCivil day y m d) (hge : first ≤ day) (e4 : l4 ≠ []) (k4 : hasI l4 m = true) (ef : a0 = 4) (hr : ((y - y0) % a1 == 0) = true) :
    Calls Tryz.prog 27 #[.agg #[.int .i64 a0, .int .i64 a1, .int .i64 a2, .int .i64 a3, .slice A4 l4.length c4, .slice A5 l5.length c5, .slice A6 l6.length c6], .int .i64 first, .int .i64 day] w fun e w' =>
      e = .returned (.bool (matchS a0 a1 l4 l5 l6 first day y m d y0 m0 d0)) ∧ Below w.heap.size w w' := by
  have hfin : matchS a0 a1 l4 l5 l6 first day y m d y0 m0 d0 = mayS l5 l6 (Cal.mlen y m) d ((day + 3) % 7) d0 := by
    unfold matchS
    rw [if_neg (by omega), if_neg (fun h => by rw [k4] at h; exact absurd h.2 (by decide)), if_neg (by omega), if_neg (by omega), if_neg (by omega), hr, Bool.true_and, decide_eq_true e4, Bool.true_or, Bool.true_and]
  have HF := Lib.hid hfin
  clear hfin
  have p4 : 0 < l4.length := List.length_pos_iff.mpr e4
  have z4 : decide (0 < l4.length) = true := decide_eq_true p4
  obtain ⟨hy, hm12⟩ := hcf.mono hcd hge
  clear hm12
  have g1 : (a0 == 1) = false := by rw [ef]; rfl
  have g2 : (a0 == 2) = false := by rw [ef]; rfl
  have g3 : (a0 == 3) = false := by rw [ef]; rfl
  clear ef
  have HR4 := Aside0.mk hr4
  have HR5 := Aside0.mk hr5
  have HR6 := Aside0.mk hr6
  have HCF := Aside0.mk hcf
  have HCD := Aside0.mk hcd
  clear hr4 hr5 hr6
  obtain ⟨u1, u2, u3, u4, u5, u6, -⟩ := hcf
  obtain ⟨v1, v2, v3, v4, v5, v6, -⟩ := hcd
  have mlF := mlen_le31 y0 m0
  have mlD := mlen_le31 y m
  have HB := Aside0.mk ((Below.refl w.heap.size w).alloc (Nat.le_refl _) (.cells #[.int .i64 a0, .int .i64 a1, .int .i64 a2, .int .i64 a3, .slice A4 l4.length c4, .slice A5 l5.length c5, .slice A6 l6.length c6] 25))
  have hz : w.heap.size < (w.alloc (.cells #[.int .i64 a0, .int .i64 a1, .int .i64 a2, .int .i64 a3, .slice A4 l4.length c4, .slice A5 l5.length c5, .slice A6 l6.length c6] 25)).heap.size := by simp
  clear e4
  go_enter Tryz.func27, Tryz.ntmps27
  go_wp2_with (first
      | (go_at_call 55; ((with_reducible refine (when_Civil_at hf0 hf1 HCF.out _).mono ?_); rintro e w2 ⟨rfl, hb2⟩; obtain ⟨hc2, hf2⟩ := bcell hb2; have hz : w.heap.size < w2.heap.size := Nat.lt_of_lt_of_le hz hb2.size; have HB' := Aside0.mk (HB.out.trans (hb2.mono HB.out.size)); clear HB hb2; have HB := HB'; clear HB'))
      | (go_at_call 55; ((with_reducible refine (when_Civil_at hd0 hd1 HCD.out _).mono ?_); rintro e w2 ⟨rfl, hb2⟩; obtain ⟨hc2, hf2⟩ := bcell hb2; have hz : w.heap.size < w2.heap.size := Nat.lt_of_lt_of_le hz hb2.size; have HB' := Aside0.mk (HB.out.trans (hb2.mono HB.out.size)); clear HB hb2; have HB := HB'; clear HB'))
      | (go_at_call 56; ((with_reducible refine (date_Weekday first hf0 hf1 _).mono ?_); rintro e w2 ⟨rfl, hb2⟩; obtain ⟨hc2, hf2⟩ := bcell hb2; have hz : w.heap.size < w2.heap.size := Nat.lt_of_lt_of_le hz hb2.size; have HB' := Aside0.mk (HB.out.trans (hb2.mono HB.out.size)); clear HB hb2; have HB := HB'; clear HB'))
      | (go_at_call 56; ((with_reducible refine (date_Weekday day hd0 hd1 _).mono ?_); rintro e w2 ⟨rfl, hb2⟩; obtain ⟨hc2, hf2⟩ := bcell hb2; have hz : w.heap.size < w2.heap.size := Nat.lt_of_lt_of_le hz hb2.size; have HB' := Aside0.mk (HB.out.trans (hb2.mono HB.out.size)); clear HB hb2; have HB := HB'; clear HB'))
      | (go_at_call 57; ((with_reducible refine (contains_int A4 c4 l4 _ _ (Kd.C_below HR4.out HB.out) hc4 hl4).mono ?_); rintro e w2 ⟨rfl, hb2⟩; obtain ⟨hc2, hf2⟩ := bcell hb2; have hz : w.heap.size < w2.heap.size := Nat.lt_of_lt_of_le hz hb2.size; have HB' := Aside0.mk (HB.out.trans (hb2.mono HB.out.size)); clear HB hb2; have HB := HB'; clear HB'))
      | (go_at_call 58; ((with_reducible refine (rule_on a0 a1 a2 a3 A4 A5 A6 c4 c5 c6 l4 l5 l6 _ _ (Kd.C_below HR4.out HB.out) hc4 (Kd.C_below HR5.out HB.out) hc5 (Kd.C_below HR6.out HB.out) hc6 hl6).mono ?_); rintro e w2 ⟨rfl, hb2⟩; obtain ⟨hc2, hf2⟩ := bcell hb2; have hz : w.heap.size < w2.heap.size := Nat.lt_of_lt_of_le hz hb2.size; have HB' := Aside0.mk (HB.out.trans (hb2.mono HB.out.size)); clear HB hb2; have HB := HB'; clear HB'))
      | (go_at_call 59; ((with_reducible refine (recur_may a0 a1 a2 a3 A4 A5 A6 c4 c5 c6 l4 l5 l6 y d _ d0 m _ (Kd.C_below HR5.out HB.out) hc5 (Kd.C_below HR6.out HB.out) hc6 hl5 hl6 v1 v2 (by omega) (by omega) v5 v6).mono ?_); rintro e w2 ⟨rfl, hb2⟩; obtain ⟨hc2, hf2⟩ := bcell hb2; have hz : w.heap.size < w2.heap.size := Nat.lt_of_lt_of_le hz hb2.size; have HB' := Aside0.mk (HB.out.trans (hb2.mono HB.out.size)); clear HB hb2; have HB := HB'; clear HB')))
  go_ret
  exact ⟨ret_bool HF.out.symm, HB.out⟩
end Go.Proofs.YtfbmjonhohebiaaGreatDoor
end
