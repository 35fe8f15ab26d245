/- Texts merged: what the law needs, and no more. -/
import Derived.Test.YtfbmjonhohebiaaGreatDoorQwf
import Derived.WalkMore
section
set_option linter.unusedVariables false
set_option linter.unusedSimpArgs false
namespace Go.Proofs.YtfbmjonhohebiaaGreatDoor
open Go.RowKit Go.Proofs.YtfbmjonhohebiaaGreatDoorW.PrintWords Go.Proofs.YtfbmjonhohebiaaGreatDoorW.PrintLast Go.Proofs.YtfbmjonhohebiaaGreatDoorW.PrintMore PRecurExpands
open Classical in
noncomputable def civ (n : Int) : Int × Int × Int := if h : ∃ p : Int × Int × Int, Cal.IsCivil n p.1 p.2.1 p.2.2 then h.choose else (0, 0, 0)
theorem civ_spec {n : Int} (h0 : 0 ≤ n) (h1 : n ≤ 2932896) : Cal.IsCivil n (civ n).1 (civ n).2.1 (civ n).2.2 := by
  obtain ⟨y, m, d, h⟩ := civil_some n h0 h1
  have hex : ∃ p : Int × Int × Int, Cal.IsCivil n p.1 p.2.1 p.2.2 := ⟨(y, m, d), h⟩
  unfold civ
  rw [dif_pos hex]
  exact hex.choose_spec
theorem civ_eq {n y m d : Int} (h0 : 0 ≤ n) (h1 : n ≤ 2932896) (h : Cal.IsCivil n y m d) : civ n = (y, m, d) := by
  obtain ⟨e1, e2, e3⟩ := (civ_spec h0 h1).uniq h
  exact Prod.ext e1 (Prod.ext e2 e3)
noncomputable def matchV (f i : Int) (l4 l5 : List Int) (l6 : List S59) (first day : Int) : Bool :=
  matchS f i l4 l5 l6 first day (civ day).1 (civ day).2.1 (civ day).2.2 (civ first).1 (civ first).2.1 (civ first).2.2
theorem recur_match (a0 a1 a2 a3 : Int) (A4 A5 A6 : Option Addr) (c4 c5 c6 : Nat) (l4 l5 : List Int) (l6 : List S59) (first day : Int) (w : World)
    (hr4 : Kd.C (Kd.int .i64) w A4 l4.length l4) (hc4 : l4.length ≤ c4) (hr5 : Kd.C (Kd.int .i64) w A5 l5.length l5) (hc5 : l5.length ≤ c5) (hr6 : Kd.C k59 w A6 l6.length l6) (hc6 : l6.length ≤ c6)
    (hl4 : l4.length ≤ 1000000000) (hl5 : l5.length ≤ 1000000000) (hl6 : l6.length ≤ 1000000000)
    (hg0 : 1 ≤ a0) (hg1 : a0 ≤ 4) (hi0 : 1 ≤ a1) (hi1 : a1 ≤ 1000) (hf0 : 0 ≤ first) (hf1 : first ≤ 2932896) (hd0 : 0 ≤ day) (hd1 : day ≤ 2932896) :
    Calls Tryz.prog 27 #[.agg #[.int .i64 a0, .int .i64 a1, .int .i64 a2, .int .i64 a3, .slice A4 l4.length c4, .slice A5 l5.length c5, .slice A6 l6.length c6], .int .i64 first, .int .i64 day] w fun e w' =>
      e = .returned (.bool (matchV a0 a1 l4 l5 l6 first day)) ∧ Below w.heap.size w w' := by
  have hcf := civ_spec hf0 hf1
  have hcd := civ_spec hd0 hd1
  unfold matchV
  revert hcf hcd
  generalize (civ first).1 = y0, (civ first).2.1 = m0, (civ first).2.2 = d0, (civ day).1 = y, (civ day).2.1 = m, (civ day).2.2 = d
  intro hcf hcd
  obtain ⟨M, rfl⟩ : ∃ M : Nat, m = M := ⟨m.toNat, by have := hcd.m0; omega⟩
  obtain ⟨M0, rfl⟩ : ∃ M0 : Nat, m0 = M0 := ⟨m0.toNat, by have := hcf.m0; omega⟩
  have bt : ∀ {b : Bool}, ¬ b = true → b = false := fun h => by simpa using h
  by_cases hlt : day < first
  · exact recur_match_early a0 a1 a2 a3 A4 A5 A6 c4 c5 c6 l4 l5 l6 first day y d y0 d0 M M0 w hr4 hc4 hr5 hc5 hr6 hc6 hl4 hl5 hl6 hi0 hi1 hf0 hf1 hd0 hd1 hcf hcd hlt
  have hge : first ≤ day := by omega
  by_cases e4 : l4 = []
  · by_cases ef1 : a0 = 1
    · by_cases hr : ((day - first) % a1 == 0) = true
      · exact recur_match_f1aE a0 a1 a2 a3 A4 A5 A6 c4 c5 c6 l4 l5 l6 first day y d y0 d0 M M0 w hr4 hc4 hr5 hc5 hr6 hc6 hl4 hl5 hl6 hi0 hi1 hf0 hf1 hd0 hd1 hcf hcd hge e4 ef1 hr
      · exact recur_match_f1bE a0 a1 a2 a3 A4 A5 A6 c4 c5 c6 l4 l5 l6 first day y d y0 d0 M M0 w hr4 hc4 hr5 hc5 hr6 hc6 hl4 hl5 hl6 hi0 hi1 hf0 hf1 hd0 hd1 hcf hcd hge e4 ef1 (bt hr)
    by_cases ef2 : a0 = 2
    · by_cases hr : ((day - (day + 3) % 7 - first + (first + 3) % 7) / 7 % a1 == 0) = true
      · by_cases e6 : l6 = []
        · exact recur_match_f2eE a0 a1 a2 a3 A4 A5 A6 c4 c5 c6 l4 l5 l6 first day y d y0 d0 M M0 w hr4 hc4 hr5 hc5 hr6 hc6 hl4 hl5 hl6 hi0 hi1 hf0 hf1 hd0 hd1 hcf hcd hge e4 ef2 hr e6
        · by_cases ho : onS l6 ((day + 3) % 7) = true
          · exact recur_match_f2tE a0 a1 a2 a3 A4 A5 A6 c4 c5 c6 l4 l5 l6 first day y d y0 d0 M M0 w hr4 hc4 hr5 hc5 hr6 hc6 hl4 hl5 hl6 hi0 hi1 hf0 hf1 hd0 hd1 hcf hcd hge e4 ef2 hr e6 ho
          · exact recur_match_f2fE a0 a1 a2 a3 A4 A5 A6 c4 c5 c6 l4 l5 l6 first day y d y0 d0 M M0 w hr4 hc4 hr5 hc5 hr6 hc6 hl4 hl5 hl6 hi0 hi1 hf0 hf1 hd0 hd1 hcf hcd hge e4 ef2 hr e6 (bt ho)
      · exact recur_match_f2bE a0 a1 a2 a3 A4 A5 A6 c4 c5 c6 l4 l5 l6 first day y d y0 d0 M M0 w hr4 hc4 hr5 hc5 hr6 hc6 hl4 hl5 hl6 hi0 hi1 hf0 hf1 hd0 hd1 hcf hcd hge e4 ef2 (bt hr)
    by_cases ef3 : a0 = 3
    · by_cases hr : ((12 * (y - y0) + (M : Int) - (M0 : Int)) % a1 == 0) = true
      · exact recur_match_f3aE a0 a1 a2 a3 A4 A5 A6 c4 c5 c6 l4 l5 l6 first day y d y0 d0 M M0 w hr4 hc4 hr5 hc5 hr6 hc6 hl4 hl5 hl6 hi0 hi1 hf0 hf1 hd0 hd1 hcf hcd hge e4 ef3 hr
      · exact recur_match_f3bE a0 a1 a2 a3 A4 A5 A6 c4 c5 c6 l4 l5 l6 first day y d y0 d0 M M0 w hr4 hc4 hr5 hc5 hr6 hc6 hl4 hl5 hl6 hi0 hi1 hf0 hf1 hd0 hd1 hcf hcd hge e4 ef3 (bt hr)
    have ef4 : a0 = 4 := by omega
    by_cases hr : ((y - y0) % a1 == 0) = true
    · by_cases he : ((M : Int) == (M0 : Int)) = true
      · exact recur_match_f4tE a0 a1 a2 a3 A4 A5 A6 c4 c5 c6 l4 l5 l6 first day y d y0 d0 M M0 w hr4 hc4 hr5 hc5 hr6 hc6 hl4 hl5 hl6 hi0 hi1 hf0 hf1 hd0 hd1 hcf hcd hge e4 ef4 hr he
      · exact recur_match_f4fE a0 a1 a2 a3 A4 A5 A6 c4 c5 c6 l4 l5 l6 first day y d y0 d0 M M0 w hr4 hc4 hr5 hc5 hr6 hc6 hl4 hl5 hl6 hi0 hi1 hf0 hf1 hd0 hd1 hcf hcd hge e4 ef4 hr (bt he)
    · exact recur_match_f4bE a0 a1 a2 a3 A4 A5 A6 c4 c5 c6 l4 l5 l6 first day y d y0 d0 M M0 w hr4 hc4 hr5 hc5 hr6 hc6 hl4 hl5 hl6 hi0 hi1 hf0 hf1 hd0 hd1 hcf hcd hge e4 ef4 (bt hr)
  · by_cases k4 : hasI l4 M = true
    · by_cases ef1 : a0 = 1
      · by_cases hr : ((day - first) % a1 == 0) = true
        · exact recur_match_f1aN a0 a1 a2 a3 A4 A5 A6 c4 c5 c6 l4 l5 l6 first day y d y0 d0 M M0 w hr4 hc4 hr5 hc5 hr6 hc6 hl4 hl5 hl6 hi0 hi1 hf0 hf1 hd0 hd1 hcf hcd hge e4 k4 ef1 hr
        · exact recur_match_f1bN a0 a1 a2 a3 A4 A5 A6 c4 c5 c6 l4 l5 l6 first day y d y0 d0 M M0 w hr4 hc4 hr5 hc5 hr6 hc6 hl4 hl5 hl6 hi0 hi1 hf0 hf1 hd0 hd1 hcf hcd hge e4 k4 ef1 (bt hr)
      by_cases ef2 : a0 = 2
      · by_cases hr : ((day - (day + 3) % 7 - first + (first + 3) % 7) / 7 % a1 == 0) = true
        · by_cases e6 : l6 = []
          · exact recur_match_f2eN a0 a1 a2 a3 A4 A5 A6 c4 c5 c6 l4 l5 l6 first day y d y0 d0 M M0 w hr4 hc4 hr5 hc5 hr6 hc6 hl4 hl5 hl6 hi0 hi1 hf0 hf1 hd0 hd1 hcf hcd hge e4 k4 ef2 hr e6
          · by_cases ho : onS l6 ((day + 3) % 7) = true
            · exact recur_match_f2tN a0 a1 a2 a3 A4 A5 A6 c4 c5 c6 l4 l5 l6 first day y d y0 d0 M M0 w hr4 hc4 hr5 hc5 hr6 hc6 hl4 hl5 hl6 hi0 hi1 hf0 hf1 hd0 hd1 hcf hcd hge e4 k4 ef2 hr e6 ho
            · exact recur_match_f2fN a0 a1 a2 a3 A4 A5 A6 c4 c5 c6 l4 l5 l6 first day y d y0 d0 M M0 w hr4 hc4 hr5 hc5 hr6 hc6 hl4 hl5 hl6 hi0 hi1 hf0 hf1 hd0 hd1 hcf hcd hge e4 k4 ef2 hr e6 (bt ho)
        · exact recur_match_f2bN a0 a1 a2 a3 A4 A5 A6 c4 c5 c6 l4 l5 l6 first day y d y0 d0 M M0 w hr4 hc4 hr5 hc5 hr6 hc6 hl4 hl5 hl6 hi0 hi1 hf0 hf1 hd0 hd1 hcf hcd hge e4 k4 ef2 (bt hr)
      by_cases ef3 : a0 = 3
      · by_cases hr : ((12 * (y - y0) + (M : Int) - (M0 : Int)) % a1 == 0) = true
        · exact recur_match_f3aN a0 a1 a2 a3 A4 A5 A6 c4 c5 c6 l4 l5 l6 first day y d y0 d0 M M0 w hr4 hc4 hr5 hc5 hr6 hc6 hl4 hl5 hl6 hi0 hi1 hf0 hf1 hd0 hd1 hcf hcd hge e4 k4 ef3 hr
        · exact recur_match_f3bN a0 a1 a2 a3 A4 A5 A6 c4 c5 c6 l4 l5 l6 first day y d y0 d0 M M0 w hr4 hc4 hr5 hc5 hr6 hc6 hl4 hl5 hl6 hi0 hi1 hf0 hf1 hd0 hd1 hcf hcd hge e4 k4 ef3 (bt hr)
      have ef4 : a0 = 4 := by omega
      by_cases hr : ((y - y0) % a1 == 0) = true
      · exact recur_match_f4aN a0 a1 a2 a3 A4 A5 A6 c4 c5 c6 l4 l5 l6 first day y d y0 d0 M M0 w hr4 hc4 hr5 hc5 hr6 hc6 hl4 hl5 hl6 hi0 hi1 hf0 hf1 hd0 hd1 hcf hcd hge e4 k4 ef4 hr
      · exact recur_match_f4bN a0 a1 a2 a3 A4 A5 A6 c4 c5 c6 l4 l5 l6 first day y d y0 d0 M M0 w hr4 hc4 hr5 hc5 hr6 hc6 hl4 hl5 hl6 hi0 hi1 hf0 hf1 hd0 hd1 hcf hcd hge e4 k4 ef4 (bt hr)
    · exact recur_match_month a0 a1 a2 a3 A4 A5 A6 c4 c5 c6 l4 l5 l6 first day y d y0 d0 M M0 w hr4 hc4 hr5 hc5 hr6 hc6 hl4 hl5 hl6 hi0 hi1 hf0 hf1 hd0 hd1 hcf hcd hge e4 (bt k4)
def isDayS (n : Int) : Bool := decide (0 ≤ n) && decide (n ≤ 2932896)
theorem recur_isDay_c (n : Int) (w : World) : Calls Tryz.prog 26 #[.int .i64 n] w fun e w' => e = .returned (.bool (isDayS n)) ∧ Below w.heap.size w w' := by
  have hk : recur_isDay.f n = some (isDayS n) := by
    unfold recur_isDay.f isDayS
    by_cases h : n ≥ 0
    · rw [if_pos h]; simp [h]
    · rw [if_neg h]; simp; omega
  exact (recur_isDay.calls n _ w hk).mono fun e w' h => ⟨h.1, h.2.below⟩
theorem recur_Right_c (a0 a1 a2 a3 : Int) (A4 A5 A6 : Option Addr) (c4 c5 c6 : Nat) (l4 l5 : List Int) (l6 : List S59) (b : Bool) (hb : b = true ↔ RightP a0 a1 a2 a3 l4 l5 l6) (w : World)
    (hr4 : Kd.C (Kd.int .i64) w A4 l4.length l4) (hc4 : l4.length ≤ c4) (hr5 : Kd.C (Kd.int .i64) w A5 l5.length l5) (hc5 : l5.length ≤ c5) (hr6 : Kd.C k59 w A6 l6.length l6) (hc6 : l6.length ≤ c6)
    (hl4 : l4.length ≤ 1000000000) (hl5 : l5.length ≤ 1000000000) (hl6 : l6.length ≤ 1000000000) :
    Calls Tryz.prog 24 #[.agg #[.int .i64 a0, .int .i64 a1, .int .i64 a2, .int .i64 a3, .slice A4 l4.length c4, .slice A5 l5.length c5, .slice A6 l6.length c6]] w fun e w' =>
      e = .returned (.bool b) ∧ Below w.heap.size w w' := by
  obtain ⟨b', he, hb'⟩ := right_ev a0 a1 a2 a3 l4 l5 l6 hl4 hl5 hl6
  obtain rfl := bool_one hb hb'
  obtain ⟨k, hk⟩ := he.rounds
  exact recur_Right.calls k a0 a1 a2 a3 A4 c4 l4 A5 c5 l5 A6 c6 l6 _ w hr4 hc4 hr5 hc5 hr6 hc6 hk
end Go.Proofs.YtfbmjonhohebiaaGreatDoor
end
section
set_option linter.unusedVariables false
set_option linter.unusedSimpArgs false
namespace Go.Proofs.YtfbmjonhohebiaaGreatDoor
open Go.RowKit Go.Proofs.YtfbmjonhohebiaaGreatDoorW.PrintWords Go.Proofs.YtfbmjonhohebiaaGreatDoorW.PrintLast Go.Proofs.YtfbmjonhohebiaaGreatDoorW.PrintMore PRecurExpands
noncomputable def MatchB (b : Bool) (a0 a1 : Int) (l4 l5 : List Int) (l6 : List S59) (first day : Int) : Bool := b && (isDayS first && (isDayS day && matchV a0 a1 l4 l5 l6 first day))
def MatchE (b : Bool) (first day : Int) : Int := if b = true then (if isDayS first = true ∧ isDayS day = true then 0 else 110) else 3
theorem ret2_bi {k' : IntKind} {a b : Bool} {a' b' : Int} (h : a = b) (h' : a' = b') : Ending.returned (.tuple #[.bool a, .int k' a']) = .returned (.tuple #[.bool b, .int k' b']) := by rw [h, h']
theorem isDayS_iff (n : Int) : isDayS n = true ↔ 0 ≤ n ∧ n ≤ 2932896 := by unfold isDayS; simp
set_option maxRecDepth 100000 in
set_option maxHeartbeats 4000000 in
theorem recur_Match (a0 a1 a2 a3 : Int) (A4 A5 A6 : Option Addr) (c4 c5 c6 : Nat) (l4 l5 : List Int) (l6 : List S59) (b : Bool) (hb : b = true ↔ RightP a0 a1 a2 a3 l4 l5 l6) (first day : Int) (w : World)
    (hr4 : Kd.C (Kd.int .i64) w A4 l4.length l4) (hc4 : l4.length ≤ c4) (hr5 : Kd.C (Kd.int .i64) w A5 l5.length l5) (hc5 : l5.length ≤ c5) (hr6 : Kd.C k59 w A6 l6.length l6) (hc6 : l6.length ≤ c6)
    (hl4 : l4.length ≤ 1000000000) (hl5 : l5.length ≤ 1000000000) (hl6 : l6.length ≤ 1000000000) :
    Calls Tryz.prog 12 #[.agg #[.int .i64 a0, .int .i64 a1, .int .i64 a2, .int .i64 a3, .slice A4 l4.length c4, .slice A5 l5.length c5, .slice A6 l6.length c6], .int .i64 first, .int .i64 day] w fun e w' =>
      e = .returned (.tuple #[.bool (MatchB b a0 a1 l4 l5 l6 first day), .int .i64 (MatchE b first day)]) ∧ Below w.heap.size w w' := by
  have HR4 := Aside0.mk hr4
  have HR5 := Aside0.mk hr5
  have HR6 := Aside0.mk hr6
  have HBB := Aside0.mk hb
  clear hr4 hr5 hr6 hb
  have HB := Aside0.mk ((Below.refl w.heap.size w).alloc (Nat.le_refl _) (.cells #[.int .i64 a0, .int .i64 a1, .int .i64 a2, .int .i64 a3, .slice A4 l4.length c4, .slice A5 l5.length c5, .slice A6 l6.length c6] 25))
  have hz : w.heap.size < (w.alloc (.cells #[.int .i64 a0, .int .i64 a1, .int .i64 a2, .int .i64 a3, .slice A4 l4.length c4, .slice A5 l5.length c5, .slice A6 l6.length c6] 25)).heap.size := by simp
  by_cases h1 : b = true
  · by_cases h2 : isDayS first = true
    · by_cases h3 : isDayS day = true
      · have hf1 : MatchB b a0 a1 l4 l5 l6 first day = matchV a0 a1 l4 l5 l6 first day := by unfold MatchB; rw [h1, h2, h3]; rfl
        have hf2 : MatchE b first day = 0 := by unfold MatchE; rw [if_pos h1, if_pos ⟨h2, h3⟩]
        have F1 := Lib.hid hf1
        have F2 := Lib.hid hf2
        have R := Aside0.mk (HBB.out.mp h1)
        obtain ⟨d1, d2⟩ := (isDayS_iff first).mp h2
        obtain ⟨d3, d4⟩ := (isDayS_iff day).mp h3
        clear hf1 hf2
        go_enter Tryz.func12, Tryz.ntmps12
        go_wp2_with (first
          | (go_at_call 24; ((with_reducible refine (recur_Right_c a0 a1 a2 a3 A4 A5 A6 c4 c5 c6 l4 l5 l6 b HBB.out _ (Kd.C_below HR4.out HB.out) hc4 (Kd.C_below HR5.out HB.out) hc5 (Kd.C_below HR6.out HB.out) hc6 hl4 hl5 hl6).mono ?_); rintro e w2 ⟨rfl, hb2⟩; obtain ⟨hc2, hf2⟩ := bcell hb2; have hz : w.heap.size < w2.heap.size := Nat.lt_of_lt_of_le hz hb2.size; have HB' := Aside0.mk (HB.out.trans (hb2.mono HB.out.size)); clear HB hb2; have HB := HB'; clear HB'))
          | (go_at_call 26; ((with_reducible refine (recur_isDay_c _ _).mono ?_); rintro e w2 ⟨rfl, hb2⟩; obtain ⟨hc2, hf2⟩ := bcell hb2; have hz : w.heap.size < w2.heap.size := Nat.lt_of_lt_of_le hz hb2.size; have HB' := Aside0.mk (HB.out.trans (hb2.mono HB.out.size)); clear HB hb2; have HB := HB'; clear HB'))
          | (go_at_call 27; ((with_reducible refine (recur_match a0 a1 a2 a3 A4 A5 A6 c4 c5 c6 l4 l5 l6 first day _ (Kd.C_below HR4.out HB.out) hc4 (Kd.C_below HR5.out HB.out) hc5 (Kd.C_below HR6.out HB.out) hc6 hl4 hl5 hl6 R.out.f0 R.out.f1 R.out.i0 R.out.i1 d1 d2 d3 d4).mono ?_); rintro e w2 ⟨rfl, hb2⟩; obtain ⟨hc2, hf2⟩ := bcell hb2; have hz : w.heap.size < w2.heap.size := Nat.lt_of_lt_of_le hz hb2.size; have HB' := Aside0.mk (HB.out.trans (hb2.mono HB.out.size)); clear HB hb2; have HB := HB'; clear HB')))
        go_ret2
        exact ⟨ret2_bi F1.out.symm F2.out.symm, HB.out⟩
      · have h3' : isDayS day = false := by simpa using h3
        have hf1 : MatchB b a0 a1 l4 l5 l6 first day = false := by unfold MatchB; rw [h1, h2, h3']; rfl
        have hf2 : MatchE b first day = 110 := by unfold MatchE; rw [if_pos h1, if_neg (fun h => h3 h.2)]
        have F1 := Lib.hid hf1
        have F2 := Lib.hid hf2
        clear hf1 hf2 h3
        go_enter Tryz.func12, Tryz.ntmps12
        go_wp2_with (first
          | (go_at_call 24; ((with_reducible refine (recur_Right_c a0 a1 a2 a3 A4 A5 A6 c4 c5 c6 l4 l5 l6 b HBB.out _ (Kd.C_below HR4.out HB.out) hc4 (Kd.C_below HR5.out HB.out) hc5 (Kd.C_below HR6.out HB.out) hc6 hl4 hl5 hl6).mono ?_); rintro e w2 ⟨rfl, hb2⟩; obtain ⟨hc2, hf2⟩ := bcell hb2; have hz : w.heap.size < w2.heap.size := Nat.lt_of_lt_of_le hz hb2.size; have HB' := Aside0.mk (HB.out.trans (hb2.mono HB.out.size)); clear HB hb2; have HB := HB'; clear HB'))
          | (go_at_call 26; ((with_reducible refine (recur_isDay_c _ _).mono ?_); rintro e w2 ⟨rfl, hb2⟩; obtain ⟨hc2, hf2⟩ := bcell hb2; have hz : w.heap.size < w2.heap.size := Nat.lt_of_lt_of_le hz hb2.size; have HB' := Aside0.mk (HB.out.trans (hb2.mono HB.out.size)); clear HB hb2; have HB := HB'; clear HB'))
          | (go_at_call 27; ((with_reducible refine (recur_match a0 a1 a2 a3 A4 A5 A6 c4 c5 c6 l4 l5 l6 first day _ (Kd.C_below HR4.out HB.out) hc4 (Kd.C_below HR5.out HB.out) hc5 (Kd.C_below HR6.out HB.out) hc6 hl4 hl5 hl6 R.out.f0 R.out.f1 R.out.i0 R.out.i1 d1 d2 d3 d4).mono ?_); rintro e w2 ⟨rfl, hb2⟩; obtain ⟨hc2, hf2⟩ := bcell hb2; have hz : w.heap.size < w2.heap.size := Nat.lt_of_lt_of_le hz hb2.size; have HB' := Aside0.mk (HB.out.trans (hb2.mono HB.out.size)); clear HB hb2; have HB := HB'; clear HB')))
        go_ret2
        exact ⟨ret2_bi F1.out.symm F2.out.symm, HB.out⟩
    · have h2' : isDayS first = false := by simpa using h2
      have hf1 : MatchB b a0 a1 l4 l5 l6 first day = false := by unfold MatchB; rw [h1, h2']; rfl
      have hf2 : MatchE b first day = 110 := by unfold MatchE; rw [if_pos h1, if_neg (fun h => h2 h.1)]
      have F1 := Lib.hid hf1
      have F2 := Lib.hid hf2
      clear hf1 hf2 h2
      go_enter Tryz.func12, Tryz.ntmps12
      go_wp2_with (first
          | (go_at_call 24; ((with_reducible refine (recur_Right_c a0 a1 a2 a3 A4 A5 A6 c4 c5 c6 l4 l5 l6 b HBB.out _ (Kd.C_below HR4.out HB.out) hc4 (Kd.C_below HR5.out HB.out) hc5 (Kd.C_below HR6.out HB.out) hc6 hl4 hl5 hl6).mono ?_); rintro e w2 ⟨rfl, hb2⟩; obtain ⟨hc2, hf2⟩ := bcell hb2; have hz : w.heap.size < w2.heap.size := Nat.lt_of_lt_of_le hz hb2.size; have HB' := Aside0.mk (HB.out.trans (hb2.mono HB.out.size)); clear HB hb2; have HB := HB'; clear HB'))
          | (go_at_call 26; ((with_reducible refine (recur_isDay_c _ _).mono ?_); rintro e w2 ⟨rfl, hb2⟩; obtain ⟨hc2, hf2⟩ := bcell hb2; have hz : w.heap.size < w2.heap.size := Nat.lt_of_lt_of_le hz hb2.size; have HB' := Aside0.mk (HB.out.trans (hb2.mono HB.out.size)); clear HB hb2; have HB := HB'; clear HB'))
          | (go_at_call 27; ((with_reducible refine (recur_match a0 a1 a2 a3 A4 A5 A6 c4 c5 c6 l4 l5 l6 first day _ (Kd.C_below HR4.out HB.out) hc4 (Kd.C_below HR5.out HB.out) hc5 (Kd.C_below HR6.out HB.out) hc6 hl4 hl5 hl6 R.out.f0 R.out.f1 R.out.i0 R.out.i1 d1 d2 d3 d4).mono ?_); rintro e w2 ⟨rfl, hb2⟩; obtain ⟨hc2, hf2⟩ := bcell hb2; have hz : w.heap.size < w2.heap.size := Nat.lt_of_lt_of_le hz hb2.size; have HB' := Aside0.mk (HB.out.trans (hb2.mono HB.out.size)); clear HB hb2; have HB := HB'; clear HB')))
      go_ret2
      exact ⟨ret2_bi F1.out.symm F2.out.symm, HB.out⟩
  · have h1' : b = false := by simpa using h1
    have hf1 : MatchB b a0 a1 l4 l5 l6 first day = false := by unfold MatchB; rw [h1']; rfl
    have hf2 : MatchE b first day = 3 := by unfold MatchE; rw [if_neg h1]
    have F1 := Lib.hid hf1
    have F2 := Lib.hid hf2
    clear hf1 hf2 h1
    go_enter Tryz.func12, Tryz.ntmps12
    go_wp2_with (first
          | (go_at_call 24; ((with_reducible refine (recur_Right_c a0 a1 a2 a3 A4 A5 A6 c4 c5 c6 l4 l5 l6 b HBB.out _ (Kd.C_below HR4.out HB.out) hc4 (Kd.C_below HR5.out HB.out) hc5 (Kd.C_below HR6.out HB.out) hc6 hl4 hl5 hl6).mono ?_); rintro e w2 ⟨rfl, hb2⟩; obtain ⟨hc2, hf2⟩ := bcell hb2; have hz : w.heap.size < w2.heap.size := Nat.lt_of_lt_of_le hz hb2.size; have HB' := Aside0.mk (HB.out.trans (hb2.mono HB.out.size)); clear HB hb2; have HB := HB'; clear HB'))
          | (go_at_call 26; ((with_reducible refine (recur_isDay_c _ _).mono ?_); rintro e w2 ⟨rfl, hb2⟩; obtain ⟨hc2, hf2⟩ := bcell hb2; have hz : w.heap.size < w2.heap.size := Nat.lt_of_lt_of_le hz hb2.size; have HB' := Aside0.mk (HB.out.trans (hb2.mono HB.out.size)); clear HB hb2; have HB := HB'; clear HB'))
          | (go_at_call 27; ((with_reducible refine (recur_match a0 a1 a2 a3 A4 A5 A6 c4 c5 c6 l4 l5 l6 first day _ (Kd.C_below HR4.out HB.out) hc4 (Kd.C_below HR5.out HB.out) hc5 (Kd.C_below HR6.out HB.out) hc6 hl4 hl5 hl6 R.out.f0 R.out.f1 R.out.i0 R.out.i1 d1 d2 d3 d4).mono ?_); rintro e w2 ⟨rfl, hb2⟩; obtain ⟨hc2, hf2⟩ := bcell hb2; have hz : w.heap.size < w2.heap.size := Nat.lt_of_lt_of_le hz hb2.size; have HB' := Aside0.mk (HB.out.trans (hb2.mono HB.out.size)); clear HB hb2; have HB := HB'; clear HB')))
    go_ret2
    exact ⟨ret2_bi F1.out.symm F2.out.symm, HB.out⟩
end Go.Proofs.YtfbmjonhohebiaaGreatDoor
end
section
set_option linter.unusedVariables false
set_option linter.unusedSimpArgs false
namespace Go.Proofs.YtfbmjonhohebiaaGreatDoor
open Go.RowKit Go.Proofs.YtfbmjonhohebiaaGreatDoorW.PrintWords Go.Proofs.YtfbmjonhohebiaaGreatDoorW.PrintLast Go.Proofs.YtfbmjonhohebiaaGreatDoorW.PrintMore PRecurExpands
def timeS (t : Int) : Bool := decide (0 ≤ t) && decide (t ≤ 253402300799)
theorem timeS_iff (t : Int) : timeS t = true ↔ timeP t := by unfold timeS timeP; simp
theorem when_Right_c (t : Int) (w : World) : Calls Tryz.prog 29 #[.int .i64 t] w fun e w' => e = .returned (.bool (timeS t)) ∧ Below w.heap.size w w' := by
  have hk : when_Right.f t = some (timeS t) := by
    unfold when_Right.f timeS
    by_cases h : t ≥ 0
    · rw [if_pos h]; simp [h]
    · rw [if_neg h]; simp; omega
  exact (when_Right.calls t _ w hk).mono fun e w' h => ⟨h.1, h.2.below⟩
def expE (b : Bool) (first frm upt most : Int) : Int :=
  if b = false then 3 else if timeS first = false ∨ timeS frm = false ∨ timeS upt = false then 110 else if 631152000 < upt - first ∨ most < 1 ∨ 1000 < most then 1 else 0
theorem ret2_ni {v : Value} {k' : IntKind} {a' b' : Int} (h' : a' = b') : Ending.returned (.tuple #[v, .int k' a']) = .returned (.tuple #[v, .int k' b']) := by rw [h']
set_option maxRecDepth 100000 in
set_option maxHeartbeats 4000000 in
theorem recur_Expand_e1 (a0 a1 a2 a3 : Int) (A4 A5 A6 : Option Addr) (c4 c5 c6 : Nat) (l4 l5 : List Int) (l6 : List S59) (b : Bool) (hb : b = true ↔ RightP a0 a1 a2 a3 l4 l5 l6) (first frm upt most : Int) (w : World)
    (hr4 : Kd.C (Kd.int .i64) w A4 l4.length l4) (hc4 : l4.length ≤ c4) (hr5 : Kd.C (Kd.int .i64) w A5 l5.length l5) (hc5 : l5.length ≤ c5) (hr6 : Kd.C k59 w A6 l6.length l6) (hc6 : l6.length ≤ c6)
    (hl4 : l4.length ≤ 1000000000) (hl5 : l5.length ≤ 1000000000) (hl6 : l6.length ≤ 1000000000) (h1 : b = false) :
    Calls Tryz.prog 16 #[.agg #[.int .i64 a0, .int .i64 a1, .int .i64 a2, .int .i64 a3, .slice A4 l4.length c4, .slice A5 l5.length c5, .slice A6 l6.length c6], .int .i64 first, .int .i64 frm, .int .i64 upt, .int .i64 most] w fun e w' =>
      e = .returned (.tuple #[.slice none 0 0, .int .i64 (expE b first frm upt most)]) ∧ Below w.heap.size w w' := by
  have HR4 := Aside0.mk hr4
  have HR5 := Aside0.mk hr5
  have HR6 := Aside0.mk hr6
  have HBB := Aside0.mk hb
  clear hr4 hr5 hr6 hb
  have HB := Aside0.mk ((((((Below.refl w.heap.size w).alloc (Nat.le_refl _) (.cells #[.int .i64 a0, .int .i64 a1, .int .i64 a2, .int .i64 a3, .slice A4 l4.length c4, .slice A5 l5.length c5, .slice A6 l6.length c6] 25)).alloc (by simp <;> omega) (.cells #[.int .i64 first] 2)).alloc (by simp <;> omega) (.cells #[.int .i64 frm] 2)).alloc (by simp <;> omega) (.cells #[.int .i64 upt] 2)).alloc (by simp <;> omega) (.cells #[.int .i64 most] 3))
  have hz : w.heap.size + 4 < (((((w.alloc (.cells #[.int .i64 a0, .int .i64 a1, .int .i64 a2, .int .i64 a3, .slice A4 l4.length c4, .slice A5 l5.length c5, .slice A6 l6.length c6] 25)).alloc (.cells #[.int .i64 first] 2)).alloc (.cells #[.int .i64 frm] 2)).alloc (.cells #[.int .i64 upt] 2)).alloc (.cells #[.int .i64 most] 3)).heap.size := by simp <;> omega
  have hfin : expE b first frm upt most = 3 := by unfold expE; rw [if_pos h1]
  have HF := Lib.hid hfin
  clear hfin
  go_enter Tryz.func16, Tryz.ntmps16
  go_wp2
  go_step3
  go_wp2_with (first
    | (go_at_call 24; ((with_reducible refine (recur_Right_c a0 a1 a2 a3 A4 A5 A6 c4 c5 c6 l4 l5 l6 b HBB.out _ (Kd.C_below HR4.out HB.out) hc4 (Kd.C_below HR5.out HB.out) hc5 (Kd.C_below HR6.out HB.out) hc6 hl4 hl5 hl6).mono ?_); rintro e w2 ⟨rfl, hb2⟩; obtain ⟨hc2, hf2⟩ := bcell hb2; have hz : w.heap.size + 4 < w2.heap.size := Nat.lt_of_lt_of_le hz hb2.size; have hz1 : w.heap.size + 1 < w2.heap.size := (by omega); have hz2 : w.heap.size + 1 + 1 < w2.heap.size := (by omega); have hz3 : w.heap.size + 1 + 1 + 1 < w2.heap.size := (by omega); have hz4 : w.heap.size + 1 + 1 + 1 + 1 < w2.heap.size := (by omega); have HB' := Aside0.mk (HB.out.trans (hb2.mono HB.out.size)); clear HB hb2; have HB := HB'; clear HB'))
    | (go_at_call 29; ((with_reducible refine (when_Right_c _ _).mono ?_); rintro e w2 ⟨rfl, hb2⟩; obtain ⟨hc2, hf2⟩ := bcell hb2; have hz : w.heap.size + 4 < w2.heap.size := Nat.lt_of_lt_of_le hz hb2.size; have hz1 : w.heap.size + 1 < w2.heap.size := (by omega); have hz2 : w.heap.size + 1 + 1 < w2.heap.size := (by omega); have hz3 : w.heap.size + 1 + 1 + 1 < w2.heap.size := (by omega); have hz4 : w.heap.size + 1 + 1 + 1 + 1 < w2.heap.size := (by omega); have HB' := Aside0.mk (HB.out.trans (hb2.mono HB.out.size)); clear HB hb2; have HB := HB'; clear HB')))
  rw [Exit.noGoto_ret]
  go_ret2
  exact ⟨ret2_ni HF.out.symm, HB.out⟩
set_option maxRecDepth 100000 in
set_option maxHeartbeats 4000000 in
theorem recur_Expand_e2a (a0 a1 a2 a3 : Int) (A4 A5 A6 : Option Addr) (c4 c5 c6 : Nat) (l4 l5 : List Int) (l6 : List S59) (b : Bool) (hb : b = true ↔ RightP a0 a1 a2 a3 l4 l5 l6) (first frm upt most : Int) (w : World)
    (hr4 : Kd.C (Kd.int .i64) w A4 l4.length l4) (hc4 : l4.length ≤ c4) (hr5 : Kd.C (Kd.int .i64) w A5 l5.length l5) (hc5 : l5.length ≤ c5) (hr6 : Kd.C k59 w A6 l6.length l6) (hc6 : l6.length ≤ c6)
    (hl4 : l4.length ≤ 1000000000) (hl5 : l5.length ≤ 1000000000) (hl6 : l6.length ≤ 1000000000) (h1 : b = true) (t1 : timeS first = false) :
    Calls Tryz.prog 16 #[.agg #[.int .i64 a0, .int .i64 a1, .int .i64 a2, .int .i64 a3, .slice A4 l4.length c4, .slice A5 l5.length c5, .slice A6 l6.length c6], .int .i64 first, .int .i64 frm, .int .i64 upt, .int .i64 most] w fun e w' =>
      e = .returned (.tuple #[.slice none 0 0, .int .i64 (expE b first frm upt most)]) ∧ Below w.heap.size w w' := by
  have HR4 := Aside0.mk hr4
  have HR5 := Aside0.mk hr5
  have HR6 := Aside0.mk hr6
  have HBB := Aside0.mk hb
  clear hr4 hr5 hr6 hb
  have HB := Aside0.mk ((((((Below.refl w.heap.size w).alloc (Nat.le_refl _) (.cells #[.int .i64 a0, .int .i64 a1, .int .i64 a2, .int .i64 a3, .slice A4 l4.length c4, .slice A5 l5.length c5, .slice A6 l6.length c6] 25)).alloc (by simp <;> omega) (.cells #[.int .i64 first] 2)).alloc (by simp <;> omega) (.cells #[.int .i64 frm] 2)).alloc (by simp <;> omega) (.cells #[.int .i64 upt] 2)).alloc (by simp <;> omega) (.cells #[.int .i64 most] 3))
  have hz : w.heap.size + 4 < (((((w.alloc (.cells #[.int .i64 a0, .int .i64 a1, .int .i64 a2, .int .i64 a3, .slice A4 l4.length c4, .slice A5 l5.length c5, .slice A6 l6.length c6] 25)).alloc (.cells #[.int .i64 first] 2)).alloc (.cells #[.int .i64 frm] 2)).alloc (.cells #[.int .i64 upt] 2)).alloc (.cells #[.int .i64 most] 3)).heap.size := by simp <;> omega
  have hfin : expE b first frm upt most = 110 := by unfold expE; rw [if_neg (by rw [h1]; decide), if_pos (.inl t1)]
  have HF := Lib.hid hfin
  clear hfin
  go_enter Tryz.func16, Tryz.ntmps16
  go_wp2
  go_step3
  go_wp2_with (first
    | (go_at_call 24; ((with_reducible refine (recur_Right_c a0 a1 a2 a3 A4 A5 A6 c4 c5 c6 l4 l5 l6 b HBB.out _ (Kd.C_below HR4.out HB.out) hc4 (Kd.C_below HR5.out HB.out) hc5 (Kd.C_below HR6.out HB.out) hc6 hl4 hl5 hl6).mono ?_); rintro e w2 ⟨rfl, hb2⟩; obtain ⟨hc2, hf2⟩ := bcell hb2; have hz : w.heap.size + 4 < w2.heap.size := Nat.lt_of_lt_of_le hz hb2.size; have hz1 : w.heap.size + 1 < w2.heap.size := (by omega); have hz2 : w.heap.size + 1 + 1 < w2.heap.size := (by omega); have hz3 : w.heap.size + 1 + 1 + 1 < w2.heap.size := (by omega); have hz4 : w.heap.size + 1 + 1 + 1 + 1 < w2.heap.size := (by omega); have HB' := Aside0.mk (HB.out.trans (hb2.mono HB.out.size)); clear HB hb2; have HB := HB'; clear HB'))
    | (go_at_call 29; ((with_reducible refine (when_Right_c _ _).mono ?_); rintro e w2 ⟨rfl, hb2⟩; obtain ⟨hc2, hf2⟩ := bcell hb2; have hz : w.heap.size + 4 < w2.heap.size := Nat.lt_of_lt_of_le hz hb2.size; have hz1 : w.heap.size + 1 < w2.heap.size := (by omega); have hz2 : w.heap.size + 1 + 1 < w2.heap.size := (by omega); have hz3 : w.heap.size + 1 + 1 + 1 < w2.heap.size := (by omega); have hz4 : w.heap.size + 1 + 1 + 1 + 1 < w2.heap.size := (by omega); have HB' := Aside0.mk (HB.out.trans (hb2.mono HB.out.size)); clear HB hb2; have HB := HB'; clear HB')))
  rw [Exit.noGoto_ret]
  go_ret2
  exact ⟨ret2_ni HF.out.symm, HB.out⟩
set_option maxRecDepth 100000 in
set_option maxHeartbeats 4000000 in
theorem recur_Expand_e2b (a0 a1 a2 a3 : Int) (A4 A5 A6 : Option Addr) (c4 c5 c6 : Nat) (l4 l5 : List Int) (l6 : List S59) (b : Bool) (hb : b = true ↔ RightP a0 a1 a2 a3 l4 l5 l6) (first frm upt most : Int) (w : World)
    (hr4 : Kd.C (Kd.int .i64) w A4 l4.length l4) (hc4 : l4.length ≤ c4) (hr5 : Kd.C (Kd.int .i64) w A5 l5.length l5) (hc5 : l5.length ≤ c5) (hr6 : Kd.C k59 w A6 l6.length l6) (hc6 : l6.length ≤ c6)
    (hl4 : l4.length ≤ 1000000000) (hl5 : l5.length ≤ 1000000000) (hl6 : l6.length ≤ 1000000000) (h1 : b = true) (t1 : timeS first = true) (t2 : timeS frm = false) :
    Calls Tryz.prog 16 #[.agg #[.int .i64 a0, .int .i64 a1, .int .i64 a2, .int .i64 a3, .slice A4 l4.length c4, .slice A5 l5.length c5, .slice A6 l6.length c6], .int .i64 first, .int .i64 frm, .int .i64 upt, .int .i64 most] w fun e w' =>
      e = .returned (.tuple #[.slice none 0 0, .int .i64 (expE b first frm upt most)]) ∧ Below w.heap.size w w' := by
  have HR4 := Aside0.mk hr4
  have HR5 := Aside0.mk hr5
  have HR6 := Aside0.mk hr6
  have HBB := Aside0.mk hb
  clear hr4 hr5 hr6 hb
  have HB := Aside0.mk ((((((Below.refl w.heap.size w).alloc (Nat.le_refl _) (.cells #[.int .i64 a0, .int .i64 a1, .int .i64 a2, .int .i64 a3, .slice A4 l4.length c4, .slice A5 l5.length c5, .slice A6 l6.length c6] 25)).alloc (by simp <;> omega) (.cells #[.int .i64 first] 2)).alloc (by simp <;> omega) (.cells #[.int .i64 frm] 2)).alloc (by simp <;> omega) (.cells #[.int .i64 upt] 2)).alloc (by simp <;> omega) (.cells #[.int .i64 most] 3))
  have hz : w.heap.size + 4 < (((((w.alloc (.cells #[.int .i64 a0, .int .i64 a1, .int .i64 a2, .int .i64 a3, .slice A4 l4.length c4, .slice A5 l5.length c5, .slice A6 l6.length c6] 25)).alloc (.cells #[.int .i64 first] 2)).alloc (.cells #[.int .i64 frm] 2)).alloc (.cells #[.int .i64 upt] 2)).alloc (.cells #[.int .i64 most] 3)).heap.size := by simp <;> omega
  have hfin : expE b first frm upt most = 110 := by unfold expE; rw [if_neg (by rw [h1]; decide), if_pos (.inr (.inl t2))]
  have HF := Lib.hid hfin
  clear hfin
  go_enter Tryz.func16, Tryz.ntmps16
  go_wp2
  go_step3
  go_wp2_with (first
    | (go_at_call 24; ((with_reducible refine (recur_Right_c a0 a1 a2 a3 A4 A5 A6 c4 c5 c6 l4 l5 l6 b HBB.out _ (Kd.C_below HR4.out HB.out) hc4 (Kd.C_below HR5.out HB.out) hc5 (Kd.C_below HR6.out HB.out) hc6 hl4 hl5 hl6).mono ?_); rintro e w2 ⟨rfl, hb2⟩; obtain ⟨hc2, hf2⟩ := bcell hb2; have hz : w.heap.size + 4 < w2.heap.size := Nat.lt_of_lt_of_le hz hb2.size; have hz1 : w.heap.size + 1 < w2.heap.size := (by omega); have hz2 : w.heap.size + 1 + 1 < w2.heap.size := (by omega); have hz3 : w.heap.size + 1 + 1 + 1 < w2.heap.size := (by omega); have hz4 : w.heap.size + 1 + 1 + 1 + 1 < w2.heap.size := (by omega); have HB' := Aside0.mk (HB.out.trans (hb2.mono HB.out.size)); clear HB hb2; have HB := HB'; clear HB'))
    | (go_at_call 29; ((with_reducible refine (when_Right_c _ _).mono ?_); rintro e w2 ⟨rfl, hb2⟩; obtain ⟨hc2, hf2⟩ := bcell hb2; have hz : w.heap.size + 4 < w2.heap.size := Nat.lt_of_lt_of_le hz hb2.size; have hz1 : w.heap.size + 1 < w2.heap.size := (by omega); have hz2 : w.heap.size + 1 + 1 < w2.heap.size := (by omega); have hz3 : w.heap.size + 1 + 1 + 1 < w2.heap.size := (by omega); have hz4 : w.heap.size + 1 + 1 + 1 + 1 < w2.heap.size := (by omega); have HB' := Aside0.mk (HB.out.trans (hb2.mono HB.out.size)); clear HB hb2; have HB := HB'; clear HB')))
  rw [Exit.noGoto_ret]
  go_ret2
  exact ⟨ret2_ni HF.out.symm, HB.out⟩
set_option maxRecDepth 100000 in
set_option maxHeartbeats 4000000 in
theorem recur_Expand_e2c (a0 a1 a2 a3 : Int) (A4 A5 A6 : Option Addr) (c4 c5 c6 : Nat) (l4 l5 : List Int) (l6 : List S59) (b : Bool) (hb : b = true ↔ RightP a0 a1 a2 a3 l4 l5 l6) (first frm upt most : Int) (w : World)
    (hr4 : Kd.C (Kd.int .i64) w A4 l4.length l4) (hc4 : l4.length ≤ c4) (hr5 : Kd.C (Kd.int .i64) w A5 l5.length l5) (hc5 : l5.length ≤ c5) (hr6 : Kd.C k59 w A6 l6.length l6) (hc6 : l6.length ≤ c6)
    (hl4 : l4.length ≤ 1000000000) (hl5 : l5.length ≤ 1000000000) (hl6 : l6.length ≤ 1000000000) (h1 : b = true) (t1 : timeS first = true) (t2 : timeS frm = true) (t3 : timeS upt = false) :
    Calls Tryz.prog 16 #[.agg #[.int .i64 a0, .int .i64 a1, .int .i64 a2, .int .i64 a3, .slice A4 l4.length c4, .slice A5 l5.length c5, .slice A6 l6.length c6], .int .i64 first, .int .i64 frm, .int .i64 upt, .int .i64 most] w fun e w' =>
      e = .returned (.tuple #[.slice none 0 0, .int .i64 (expE b first frm upt most)]) ∧ Below w.heap.size w w' := by
  have HR4 := Aside0.mk hr4
  have HR5 := Aside0.mk hr5
  have HR6 := Aside0.mk hr6
  have HBB := Aside0.mk hb
  clear hr4 hr5 hr6 hb
  have HB := Aside0.mk ((((((Below.refl w.heap.size w).alloc (Nat.le_refl _) (.cells #[.int .i64 a0, .int .i64 a1, .int .i64 a2, .int .i64 a3, .slice A4 l4.length c4, .slice A5 l5.length c5, .slice A6 l6.length c6] 25)).alloc (by simp <;> omega) (.cells #[.int .i64 first] 2)).alloc (by simp <;> omega) (.cells #[.int .i64 frm] 2)).alloc (by simp <;> omega) (.cells #[.int .i64 upt] 2)).alloc (by simp <;> omega) (.cells #[.int .i64 most] 3))
  have hz : w.heap.size + 4 < (((((w.alloc (.cells #[.int .i64 a0, .int .i64 a1, .int .i64 a2, .int .i64 a3, .slice A4 l4.length c4, .slice A5 l5.length c5, .slice A6 l6.length c6] 25)).alloc (.cells #[.int .i64 first] 2)).alloc (.cells #[.int .i64 frm] 2)).alloc (.cells #[.int .i64 upt] 2)).alloc (.cells #[.int .i64 most] 3)).heap.size := by simp <;> omega
  have hfin : expE b first frm upt most = 110 := by unfold expE; rw [if_neg (by rw [h1]; decide), if_pos (.inr (.inr t3))]
  have HF := Lib.hid hfin
  clear hfin
  go_enter Tryz.func16, Tryz.ntmps16
  go_wp2
  go_step3
  go_wp2_with (first
    | (go_at_call 24; ((with_reducible refine (recur_Right_c a0 a1 a2 a3 A4 A5 A6 c4 c5 c6 l4 l5 l6 b HBB.out _ (Kd.C_below HR4.out HB.out) hc4 (Kd.C_below HR5.out HB.out) hc5 (Kd.C_below HR6.out HB.out) hc6 hl4 hl5 hl6).mono ?_); rintro e w2 ⟨rfl, hb2⟩; obtain ⟨hc2, hf2⟩ := bcell hb2; have hz : w.heap.size + 4 < w2.heap.size := Nat.lt_of_lt_of_le hz hb2.size; have hz1 : w.heap.size + 1 < w2.heap.size := (by omega); have hz2 : w.heap.size + 1 + 1 < w2.heap.size := (by omega); have hz3 : w.heap.size + 1 + 1 + 1 < w2.heap.size := (by omega); have hz4 : w.heap.size + 1 + 1 + 1 + 1 < w2.heap.size := (by omega); have HB' := Aside0.mk (HB.out.trans (hb2.mono HB.out.size)); clear HB hb2; have HB := HB'; clear HB'))
    | (go_at_call 29; ((with_reducible refine (when_Right_c _ _).mono ?_); rintro e w2 ⟨rfl, hb2⟩; obtain ⟨hc2, hf2⟩ := bcell hb2; have hz : w.heap.size + 4 < w2.heap.size := Nat.lt_of_lt_of_le hz hb2.size; have hz1 : w.heap.size + 1 < w2.heap.size := (by omega); have hz2 : w.heap.size + 1 + 1 < w2.heap.size := (by omega); have hz3 : w.heap.size + 1 + 1 + 1 < w2.heap.size := (by omega); have hz4 : w.heap.size + 1 + 1 + 1 + 1 < w2.heap.size := (by omega); have HB' := Aside0.mk (HB.out.trans (hb2.mono HB.out.size)); clear HB hb2; have HB := HB'; clear HB')))
  rw [Exit.noGoto_ret]
  go_ret2
  exact ⟨ret2_ni HF.out.symm, HB.out⟩
set_option maxRecDepth 100000 in
set_option maxHeartbeats 4000000 in
theorem recur_Expand_e3a (a0 a1 a2 a3 : Int) (A4 A5 A6 : Option Addr) (c4 c5 c6 : Nat) (l4 l5 : List Int) (l6 : List S59) (b : Bool) (hb : b = true ↔ RightP a0 a1 a2 a3 l4 l5 l6) (first frm upt most : Int) (w : World)
    (hr4 : Kd.C (Kd.int .i64) w A4 l4.length l4) (hc4 : l4.length ≤ c4) (hr5 : Kd.C (Kd.int .i64) w A5 l5.length l5) (hc5 : l5.length ≤ c5) (hr6 : Kd.C k59 w A6 l6.length l6) (hc6 : l6.length ≤ c6)
    (hl4 : l4.length ≤ 1000000000) (hl5 : l5.length ≤ 1000000000) (hl6 : l6.length ≤ 1000000000) (h1 : b = true) (t1 : timeS first = true) (t2 : timeS frm = true) (t3 : timeS upt = true) (hs : 631152000 < upt - first) :
    Calls Tryz.prog 16 #[.agg #[.int .i64 a0, .int .i64 a1, .int .i64 a2, .int .i64 a3, .slice A4 l4.length c4, .slice A5 l5.length c5, .slice A6 l6.length c6], .int .i64 first, .int .i64 frm, .int .i64 upt, .int .i64 most] w fun e w' =>
      e = .returned (.tuple #[.slice none 0 0, .int .i64 (expE b first frm upt most)]) ∧ Below w.heap.size w w' := by
  have HR4 := Aside0.mk hr4
  have HR5 := Aside0.mk hr5
  have HR6 := Aside0.mk hr6
  have HBB := Aside0.mk hb
  clear hr4 hr5 hr6 hb
  have HB := Aside0.mk ((((((Below.refl w.heap.size w).alloc (Nat.le_refl _) (.cells #[.int .i64 a0, .int .i64 a1, .int .i64 a2, .int .i64 a3, .slice A4 l4.length c4, .slice A5 l5.length c5, .slice A6 l6.length c6] 25)).alloc (by simp <;> omega) (.cells #[.int .i64 first] 2)).alloc (by simp <;> omega) (.cells #[.int .i64 frm] 2)).alloc (by simp <;> omega) (.cells #[.int .i64 upt] 2)).alloc (by simp <;> omega) (.cells #[.int .i64 most] 3))
  have hz : w.heap.size + 4 < (((((w.alloc (.cells #[.int .i64 a0, .int .i64 a1, .int .i64 a2, .int .i64 a3, .slice A4 l4.length c4, .slice A5 l5.length c5, .slice A6 l6.length c6] 25)).alloc (.cells #[.int .i64 first] 2)).alloc (.cells #[.int .i64 frm] 2)).alloc (.cells #[.int .i64 upt] 2)).alloc (.cells #[.int .i64 most] 3)).heap.size := by simp <;> omega
  have hfin : expE b first frm upt most = 1 := by unfold expE; rw [if_neg (by rw [h1]; decide), if_neg (by rw [t1, t2, t3]; decide), if_pos (.inl hs)]
  have HF := Lib.hid hfin
  clear hfin
  obtain ⟨q1, q2⟩ := (timeS_iff _).mp t1
  obtain ⟨q3, q4⟩ := (timeS_iff _).mp t3
  have hd : decide (631152000 < upt - first) = true := decide_eq_true hs
  go_enter Tryz.func16, Tryz.ntmps16
  go_wp2
  go_step3
  go_wp2_with (first
    | (go_at_call 24; ((with_reducible refine (recur_Right_c a0 a1 a2 a3 A4 A5 A6 c4 c5 c6 l4 l5 l6 b HBB.out _ (Kd.C_below HR4.out HB.out) hc4 (Kd.C_below HR5.out HB.out) hc5 (Kd.C_below HR6.out HB.out) hc6 hl4 hl5 hl6).mono ?_); rintro e w2 ⟨rfl, hb2⟩; obtain ⟨hc2, hf2⟩ := bcell hb2; have hz : w.heap.size + 4 < w2.heap.size := Nat.lt_of_lt_of_le hz hb2.size; have hz1 : w.heap.size + 1 < w2.heap.size := (by omega); have hz2 : w.heap.size + 1 + 1 < w2.heap.size := (by omega); have hz3 : w.heap.size + 1 + 1 + 1 < w2.heap.size := (by omega); have hz4 : w.heap.size + 1 + 1 + 1 + 1 < w2.heap.size := (by omega); have HB' := Aside0.mk (HB.out.trans (hb2.mono HB.out.size)); clear HB hb2; have HB := HB'; clear HB'))
    | (go_at_call 29; ((with_reducible refine (when_Right_c _ _).mono ?_); rintro e w2 ⟨rfl, hb2⟩; obtain ⟨hc2, hf2⟩ := bcell hb2; have hz : w.heap.size + 4 < w2.heap.size := Nat.lt_of_lt_of_le hz hb2.size; have hz1 : w.heap.size + 1 < w2.heap.size := (by omega); have hz2 : w.heap.size + 1 + 1 < w2.heap.size := (by omega); have hz3 : w.heap.size + 1 + 1 + 1 < w2.heap.size := (by omega); have hz4 : w.heap.size + 1 + 1 + 1 + 1 < w2.heap.size := (by omega); have HB' := Aside0.mk (HB.out.trans (hb2.mono HB.out.size)); clear HB hb2; have HB := HB'; clear HB')))
  rw [Exit.noGoto_ret]
  go_ret2
  exact ⟨ret2_ni HF.out.symm, HB.out⟩
set_option maxRecDepth 100000 in
set_option maxHeartbeats 4000000 in
theorem recur_Expand_e3b (a0 a1 a2 a3 : Int) (A4 A5 A6 : Option Addr) (c4 c5 c6 : Nat) (l4 l5 : List Int) (l6 : List S59) (b : Bool) (hb : b = true ↔ RightP a0 a1 a2 a3 l4 l5 l6) (first frm upt most : Int) (w : World)
    (hr4 : Kd.C (Kd.int .i64) w A4 l4.length l4) (hc4 : l4.length ≤ c4) (hr5 : Kd.C (Kd.int .i64) w A5 l5.length l5) (hc5 : l5.length ≤ c5) (hr6 : Kd.C k59 w A6 l6.length l6) (hc6 : l6.length ≤ c6)
    (hl4 : l4.length ≤ 1000000000) (hl5 : l5.length ≤ 1000000000) (hl6 : l6.length ≤ 1000000000) (h1 : b = true) (t1 : timeS first = true) (t2 : timeS frm = true) (t3 : timeS upt = true) (hs : ¬ 631152000 < upt - first) (hm : most < 1) :
    Calls Tryz.prog 16 #[.agg #[.int .i64 a0, .int .i64 a1, .int .i64 a2, .int .i64 a3, .slice A4 l4.length c4, .slice A5 l5.length c5, .slice A6 l6.length c6], .int .i64 first, .int .i64 frm, .int .i64 upt, .int .i64 most] w fun e w' =>
      e = .returned (.tuple #[.slice none 0 0, .int .i64 (expE b first frm upt most)]) ∧ Below w.heap.size w w' := by
  have HR4 := Aside0.mk hr4
  have HR5 := Aside0.mk hr5
  have HR6 := Aside0.mk hr6
  have HBB := Aside0.mk hb
  clear hr4 hr5 hr6 hb
  have HB := Aside0.mk ((((((Below.refl w.heap.size w).alloc (Nat.le_refl _) (.cells #[.int .i64 a0, .int .i64 a1, .int .i64 a2, .int .i64 a3, .slice A4 l4.length c4, .slice A5 l5.length c5, .slice A6 l6.length c6] 25)).alloc (by simp <;> omega) (.cells #[.int .i64 first] 2)).alloc (by simp <;> omega) (.cells #[.int .i64 frm] 2)).alloc (by simp <;> omega) (.cells #[.int .i64 upt] 2)).alloc (by simp <;> omega) (.cells #[.int .i64 most] 3))
  have hz : w.heap.size + 4 < (((((w.alloc (.cells #[.int .i64 a0, .int .i64 a1, .int .i64 a2, .int .i64 a3, .slice A4 l4.length c4, .slice A5 l5.length c5, .slice A6 l6.length c6] 25)).alloc (.cells #[.int .i64 first] 2)).alloc (.cells #[.int .i64 frm] 2)).alloc (.cells #[.int .i64 upt] 2)).alloc (.cells #[.int .i64 most] 3)).heap.size := by simp <;> omega
  have hfin : expE b first frm upt most = 1 := by unfold expE; rw [if_neg (by rw [h1]; decide), if_neg (by rw [t1, t2, t3]; decide), if_pos (.inr (.inl hm))]
  have HF := Lib.hid hfin
  clear hfin
  obtain ⟨q1, q2⟩ := (timeS_iff _).mp t1
  obtain ⟨q3, q4⟩ := (timeS_iff _).mp t3
  have hd : decide (631152000 < upt - first) = false := decide_eq_false hs
  have he : decide (most < 1) = true := decide_eq_true hm
  clear hs
  go_enter Tryz.func16, Tryz.ntmps16
  go_wp2
  go_step3
  go_wp2_with (first
    | (go_at_call 24; ((with_reducible refine (recur_Right_c a0 a1 a2 a3 A4 A5 A6 c4 c5 c6 l4 l5 l6 b HBB.out _ (Kd.C_below HR4.out HB.out) hc4 (Kd.C_below HR5.out HB.out) hc5 (Kd.C_below HR6.out HB.out) hc6 hl4 hl5 hl6).mono ?_); rintro e w2 ⟨rfl, hb2⟩; obtain ⟨hc2, hf2⟩ := bcell hb2; have hz : w.heap.size + 4 < w2.heap.size := Nat.lt_of_lt_of_le hz hb2.size; have hz1 : w.heap.size + 1 < w2.heap.size := (by omega); have hz2 : w.heap.size + 1 + 1 < w2.heap.size := (by omega); have hz3 : w.heap.size + 1 + 1 + 1 < w2.heap.size := (by omega); have hz4 : w.heap.size + 1 + 1 + 1 + 1 < w2.heap.size := (by omega); have HB' := Aside0.mk (HB.out.trans (hb2.mono HB.out.size)); clear HB hb2; have HB := HB'; clear HB'))
    | (go_at_call 29; ((with_reducible refine (when_Right_c _ _).mono ?_); rintro e w2 ⟨rfl, hb2⟩; obtain ⟨hc2, hf2⟩ := bcell hb2; have hz : w.heap.size + 4 < w2.heap.size := Nat.lt_of_lt_of_le hz hb2.size; have hz1 : w.heap.size + 1 < w2.heap.size := (by omega); have hz2 : w.heap.size + 1 + 1 < w2.heap.size := (by omega); have hz3 : w.heap.size + 1 + 1 + 1 < w2.heap.size := (by omega); have hz4 : w.heap.size + 1 + 1 + 1 + 1 < w2.heap.size := (by omega); have HB' := Aside0.mk (HB.out.trans (hb2.mono HB.out.size)); clear HB hb2; have HB := HB'; clear HB')))
  rw [Exit.noGoto_ret]
  go_ret2
  exact ⟨ret2_ni HF.out.symm, HB.out⟩
set_option maxRecDepth 100000 in
set_option maxHeartbeats 4000000 in
theorem recur_Expand_e3c (a0 a1 a2 a3 : Int) (A4 A5 A6 : Option Addr) (c4 c5 c6 : Nat) (l4 l5 : List Int) (l6 : List S59) (b : Bool) (hb : b = true ↔ RightP a0 a1 a2 a3 l4 l5 l6) (first frm upt most : Int) (w : World)
    (hr4 : Kd.C (Kd.int .i64) w A4 l4.length l4) (hc4 : l4.length ≤ c4) (hr5 : Kd.C (Kd.int .i64) w A5 l5.length l5) (hc5 : l5.length ≤ c5) (hr6 : Kd.C k59 w A6 l6.length l6) (hc6 : l6.length ≤ c6)
    (hl4 : l4.length ≤ 1000000000) (hl5 : l5.length ≤ 1000000000) (hl6 : l6.length ≤ 1000000000) (h1 : b = true) (t1 : timeS first = true) (t2 : timeS frm = true) (t3 : timeS upt = true) (hs : ¬ 631152000 < upt - first) (hm : ¬ most < 1) (hn : 1000 < most) :
    Calls Tryz.prog 16 #[.agg #[.int .i64 a0, .int .i64 a1, .int .i64 a2, .int .i64 a3, .slice A4 l4.length c4, .slice A5 l5.length c5, .slice A6 l6.length c6], .int .i64 first, .int .i64 frm, .int .i64 upt, .int .i64 most] w fun e w' =>
      e = .returned (.tuple #[.slice none 0 0, .int .i64 (expE b first frm upt most)]) ∧ Below w.heap.size w w' := by
  have HR4 := Aside0.mk hr4
  have HR5 := Aside0.mk hr5
  have HR6 := Aside0.mk hr6
  have HBB := Aside0.mk hb
  clear hr4 hr5 hr6 hb
  have HB := Aside0.mk ((((((Below.refl w.heap.size w).alloc (Nat.le_refl _) (.cells #[.int .i64 a0, .int .i64 a1, .int .i64 a2, .int .i64 a3, .slice A4 l4.length c4, .slice A5 l5.length c5, .slice A6 l6.length c6] 25)).alloc (by simp <;> omega) (.cells #[.int .i64 first] 2)).alloc (by simp <;> omega) (.cells #[.int .i64 frm] 2)).alloc (by simp <;> omega) (.cells #[.int .i64 upt] 2)).alloc (by simp <;> omega) (.cells #[.int .i64 most] 3))
  have hz : w.heap.size + 4 < (((((w.alloc (.cells #[.int .i64 a0, .int .i64 a1, .int .i64 a2, .int .i64 a3, .slice A4 l4.length c4, .slice A5 l5.length c5, .slice A6 l6.length c6] 25)).alloc (.cells #[.int .i64 first] 2)).alloc (.cells #[.int .i64 frm] 2)).alloc (.cells #[.int .i64 upt] 2)).alloc (.cells #[.int .i64 most] 3)).heap.size := by simp <;> omega
  have hfin : expE b first frm upt most = 1 := by unfold expE; rw [if_neg (by rw [h1]; decide), if_neg (by rw [t1, t2, t3]; decide), if_pos (.inr (.inr hn))]
  have HF := Lib.hid hfin
  clear hfin
  obtain ⟨q1, q2⟩ := (timeS_iff _).mp t1
  obtain ⟨q3, q4⟩ := (timeS_iff _).mp t3
  have hd : decide (631152000 < upt - first) = false := decide_eq_false hs
  have he : decide (most < 1) = false := decide_eq_false hm
  have hg : decide (1000 < most) = true := decide_eq_true hn
  clear hs hm
  go_enter Tryz.func16, Tryz.ntmps16
  go_wp2
  go_step3
  go_wp2_with (first
    | (go_at_call 24; ((with_reducible refine (recur_Right_c a0 a1 a2 a3 A4 A5 A6 c4 c5 c6 l4 l5 l6 b HBB.out _ (Kd.C_below HR4.out HB.out) hc4 (Kd.C_below HR5.out HB.out) hc5 (Kd.C_below HR6.out HB.out) hc6 hl4 hl5 hl6).mono ?_); rintro e w2 ⟨rfl, hb2⟩; obtain ⟨hc2, hf2⟩ := bcell hb2; have hz : w.heap.size + 4 < w2.heap.size := Nat.lt_of_lt_of_le hz hb2.size; have hz1 : w.heap.size + 1 < w2.heap.size := (by omega); have hz2 : w.heap.size + 1 + 1 < w2.heap.size := (by omega); have hz3 : w.heap.size + 1 + 1 + 1 < w2.heap.size := (by omega); have hz4 : w.heap.size + 1 + 1 + 1 + 1 < w2.heap.size := (by omega); have HB' := Aside0.mk (HB.out.trans (hb2.mono HB.out.size)); clear HB hb2; have HB := HB'; clear HB'))
    | (go_at_call 29; ((with_reducible refine (when_Right_c _ _).mono ?_); rintro e w2 ⟨rfl, hb2⟩; obtain ⟨hc2, hf2⟩ := bcell hb2; have hz : w.heap.size + 4 < w2.heap.size := Nat.lt_of_lt_of_le hz hb2.size; have hz1 : w.heap.size + 1 < w2.heap.size := (by omega); have hz2 : w.heap.size + 1 + 1 < w2.heap.size := (by omega); have hz3 : w.heap.size + 1 + 1 + 1 < w2.heap.size := (by omega); have hz4 : w.heap.size + 1 + 1 + 1 + 1 < w2.heap.size := (by omega); have HB' := Aside0.mk (HB.out.trans (hb2.mono HB.out.size)); clear HB hb2; have HB := HB'; clear HB')))
  rw [Exit.noGoto_ret]
  go_ret2
  exact ⟨ret2_ni HF.out.symm, HB.out⟩
theorem recur_Expand_bad (a0 a1 a2 a3 : Int) (A4 A5 A6 : Option Addr) (c4 c5 c6 : Nat) (l4 l5 : List Int) (l6 : List S59) (b : Bool) (hb : b = true ↔ RightP a0 a1 a2 a3 l4 l5 l6) (first frm upt most : Int) (w : World)
    (hr4 : Kd.C (Kd.int .i64) w A4 l4.length l4) (hc4 : l4.length ≤ c4) (hr5 : Kd.C (Kd.int .i64) w A5 l5.length l5) (hc5 : l5.length ≤ c5) (hr6 : Kd.C k59 w A6 l6.length l6) (hc6 : l6.length ≤ c6)
    (hl4 : l4.length ≤ 1000000000) (hl5 : l5.length ≤ 1000000000) (hl6 : l6.length ≤ 1000000000) (hbad : expE b first frm upt most ≠ 0) :
    Calls Tryz.prog 16 #[.agg #[.int .i64 a0, .int .i64 a1, .int .i64 a2, .int .i64 a3, .slice A4 l4.length c4, .slice A5 l5.length c5, .slice A6 l6.length c6], .int .i64 first, .int .i64 frm, .int .i64 upt, .int .i64 most] w fun e w' =>
      e = .returned (.tuple #[.slice none 0 0, .int .i64 (expE b first frm upt most)]) ∧ Below w.heap.size w w' := by
  have bt : ∀ {b : Bool}, ¬ b = true → b = false := fun h => by simpa using h
  by_cases h1 : b = true
  · by_cases t1 : timeS first = true
    · by_cases t2 : timeS frm = true
      · by_cases t3 : timeS upt = true
        · by_cases hs : 631152000 < upt - first
          · exact recur_Expand_e3a a0 a1 a2 a3 A4 A5 A6 c4 c5 c6 l4 l5 l6 b hb first frm upt most w hr4 hc4 hr5 hc5 hr6 hc6 hl4 hl5 hl6 h1 t1 t2 t3 hs
          · by_cases hm : most < 1
            · exact recur_Expand_e3b a0 a1 a2 a3 A4 A5 A6 c4 c5 c6 l4 l5 l6 b hb first frm upt most w hr4 hc4 hr5 hc5 hr6 hc6 hl4 hl5 hl6 h1 t1 t2 t3 hs hm
            · by_cases hn : 1000 < most
              · exact recur_Expand_e3c a0 a1 a2 a3 A4 A5 A6 c4 c5 c6 l4 l5 l6 b hb first frm upt most w hr4 hc4 hr5 hc5 hr6 hc6 hl4 hl5 hl6 h1 t1 t2 t3 hs hm hn
              · exact absurd (by unfold expE; rw [if_neg (by rw [h1]; decide), if_neg (by rw [t1, t2, t3]; decide), if_neg (by omega)]) hbad
        · exact recur_Expand_e2c a0 a1 a2 a3 A4 A5 A6 c4 c5 c6 l4 l5 l6 b hb first frm upt most w hr4 hc4 hr5 hc5 hr6 hc6 hl4 hl5 hl6 h1 t1 t2 (bt t3)
      · exact recur_Expand_e2b a0 a1 a2 a3 A4 A5 A6 c4 c5 c6 l4 l5 l6 b hb first frm upt most w hr4 hc4 hr5 hc5 hr6 hc6 hl4 hl5 hl6 h1 t1 (bt t2)
    · exact recur_Expand_e2a a0 a1 a2 a3 A4 A5 A6 c4 c5 c6 l4 l5 l6 b hb first frm upt most w hr4 hc4 hr5 hc5 hr6 hc6 hl4 hl5 hl6 h1 (bt t1)
  · exact recur_Expand_e1 a0 a1 a2 a3 A4 A5 A6 c4 c5 c6 l4 l5 l6 b hb first frm upt most w hr4 hc4 hr5 hc5 hr6 hc6 hl4 hl5 hl6 (bt h1)
end Go.Proofs.YtfbmjonhohebiaaGreatDoor
end
section
namespace Go.Proofs.YtfbmjonhohebiaaGreatDoor.PRecurExpands
open Go.RowKit Go.Proofs.YtfbmjonhohebiaaGreatDoorW.PrintWords Go.Proofs.YtfbmjonhohebiaaGreatDoorW.PrintLast Go.Proofs.YtfbmjonhohebiaaGreatDoorW.PrintMore
attribute [local go_sem] max2_int min2_int max_two min_two max_three min_three max_four min_four
set_option linter.unusedVariables false
set_option linter.unusedSimpArgs false
def posthornlaw21_Far.f (a0 : Int) (a1 : Int) : Option (Bool) := if a0 > 8589934592 then (if a1 > a0 then (some (decide ((wrap64 (a1 - a0)) > 67108864))) else (some false)) else (some false)
set_option maxHeartbeats 8000000 in
set_option maxRecDepth 100000 in
theorem posthornlaw21_Far.calls (a0 : Int) (a1 : Int) (r : Bool) (w : World) (h : posthornlaw21_Far.f a0 a1 = some r) :
    Calls Tryz.prog 15 #[.int .i64 a0, .int .i64 a1] w fun e w' => e = .returned (.bool r) ∧ Drawn0 w w' := by
  have H : (if a0 > 8589934592 then (if a1 > a0 then (some (decide ((wrap64 (a1 - a0)) > 67108864))) else (some false)) else (some false)) = some r := h
  clear h
  by_cases c3 : a0 > 8589934592
  · rw [if_pos c3] at H
    have c3b0 : decide (8589934592 < a0) = true := decide_eq_true c3
    clear c3
    by_cases c4 : a1 > a0
    · rw [if_pos c4] at H
      have c4b0 : decide (a0 < a1) = true := decide_eq_true c4
      clear c4
      obtain rfl := Option.some.inj H
      go_enter Tryz.func15, Tryz.ntmps15
      go_wp2
      go_ret
      exact ⟨by first | rfl | (simp; done) | (simp [*]; done), by repeat (first | exact Drawn0.refl _ | apply Drawn0.step)⟩
    · rw [if_neg c4] at H
      have c4b0 : decide (a0 < a1) = false := decide_eq_false c4
      clear c4
      obtain rfl := Option.some.inj H
      go_enter Tryz.func15, Tryz.ntmps15
      go_wp2
      go_ret
      exact ⟨by first | rfl | (simp; done) | (simp [*]; done), by repeat (first | exact Drawn0.refl _ | apply Drawn0.step)⟩
  · rw [if_neg c3] at H
    have c3b0 : decide (8589934592 < a0) = false := decide_eq_false c3
    clear c3
    obtain rfl := Option.some.inj H
    go_enter Tryz.func15, Tryz.ntmps15
    go_wp2
    go_ret
    exact ⟨by first | rfl | (simp; done) | (simp [*]; done), by repeat (first | exact Drawn0.refl _ | apply Drawn0.step)⟩
end Go.Proofs.YtfbmjonhohebiaaGreatDoor.PRecurExpands
end
section
set_option linter.unusedVariables false
set_option linter.unusedSimpArgs false
namespace Go.Proofs.YtfbmjonhohebiaaGreatDoor
open Go.RowKit Go.Proofs.YtfbmjonhohebiaaGreatDoorW.PrintWords Go.Proofs.YtfbmjonhohebiaaGreatDoorW.PrintLast Go.Proofs.YtfbmjonhohebiaaGreatDoorW.PrintMore PRecurExpands
def to60 (x : S59) : S60 := ⟨x.f0, x.f1⟩
end Go.Proofs.YtfbmjonhohebiaaGreatDoor
end
section
namespace Go.Proofs.YtfbmjonhohebiaaGreatDoor.PRecurExpands
open Go.RowKit Go.Proofs.YtfbmjonhohebiaaGreatDoorW.PrintWords Go.Proofs.YtfbmjonhohebiaaGreatDoorW.PrintLast Go.Proofs.YtfbmjonhohebiaaGreatDoorW.PrintMore
attribute [local go_sem] max2_int min2_int max_two min_two max_three min_three max_four min_four
set_option linter.unusedVariables false
set_option linter.unusedSimpArgs false
def posthornref21_SameTimes.l0 : Nat → List Int → List Int → Int → Option (Bool)
  | 0, _, _, _ => none
  | k + 1, x0, x1, x5 => if x5 < (x0.length : Int) then (if 0 ≤ x5 then (if x5 < (x1.length : Int) then (if (rd x0 x5) = (rd x1 x5) then (posthornref21_SameTimes.l0 k x0 x1 (wrap64 (x5 + 1))) else (some false)) else (none)) else (none)) else (some true)
def posthornref21_SameTimes.f (k : Nat) (l0 : List Int) (l1 : List Int) : Option (Bool) := if (l0.length : Int) = (l1.length : Int) then (posthornref21_SameTimes.l0 k l0 l1 0) else (some false)
theorem posthornref21_SameTimes.mono_l : ∀ k, (∀ y0 y1 y2, LeO (posthornref21_SameTimes.l0 k y0 y1 y2) (posthornref21_SameTimes.l0 (k + 1) y0 y1 y2))
  | 0 => fun _ _ _ r h => by simp [posthornref21_SameTimes.l0] at h
  | k + 1 => by
    have ih0 := posthornref21_SameTimes.mono_l k
    · intro y0 y1 y2
      unfold posthornref21_SameTimes.l0
      repeat' first
      | (with_reducible exact ih0 _ _ _)
      | (with_reducible exact LeO.refl _)
      | (with_reducible exact LeO.none _)
      | (with_reducible refine LeO.ite ?_ ?_)
      | (with_reducible refine LeO.bind ?_ (fun _ => ?_))
      | exact ih0 _ _ _
      | exact LeO.none _
      | refine LeO.ite ?_ ?_
      | refine LeO.bind ?_ (fun _ => ?_)
theorem posthornref21_SameTimes.mono : ∀ a0 a1 k, LeO (posthornref21_SameTimes.f k a0 a1) (posthornref21_SameTimes.f (k + 1) a0 a1) := by
  intro a0 a1 k
  have ih0 := posthornref21_SameTimes.mono_l k
  unfold posthornref21_SameTimes.f
  repeat' first
      | (with_reducible exact ih0 _ _ _)
      | (with_reducible exact LeO.refl _)
      | (with_reducible exact LeO.none _)
      | (with_reducible refine LeO.ite ?_ ?_)
      | (with_reducible refine LeO.bind ?_ (fun _ => ?_))
      | exact ih0 _ _ _
      | exact LeO.none _
      | refine LeO.ite ?_ ?_
      | refine LeO.bind ?_ (fun _ => ?_)
set_option maxHeartbeats 8000000 in
set_option maxRecDepth 100000 in
theorem posthornref21_SameTimes.calls (k : Nat) (A0 : Option Addr) (c0 : Nat) (l0 : List Int) (A1 : Option Addr) (c1 : Nat) (l1 : List Int) (r : Bool) (w : World) (hr0 : Kd.C (Kd.int .i64) w A0 l0.length l0) (hc0 : l0.length ≤ c0) (hr1 : Kd.C (Kd.int .i64) w A1 l1.length l1) (hc1 : l1.length ≤ c1) (h : posthornref21_SameTimes.f k l0 l1 = some r) :
    Calls Tryz.prog 18 #[.slice A0 l0.length c0, .slice A1 l1.length c1] w fun e w' => e = .returned (.bool r) ∧ Drawn0 w w' := by
  have HR0 := Aside0.mk hr0
  have HC0 := Aside0.mk hc0
  clear hr0 hc0
  have HR1 := Aside0.mk hr1
  have HC1 := Aside0.mk hc1
  clear hr1 hc1
  have H : (if (l0.length : Int) = (l1.length : Int) then (posthornref21_SameTimes.l0 k l0 l1 0) else (some false)) = some r := h
  clear h
  by_cases c3 : (l0.length : Int) = (l1.length : Int)
  · rw [if_pos c3] at H
    have c3b0 : ((l0.length : Int) == (l1.length : Int)) = true := beq_iff_eq.mpr c3
    have c3b1 : ((l0.length : Int) != (l1.length : Int)) = false := bne_eq_false_iff_eq.mpr c3
    have c3b2 : (l0.length == l1.length) = true := by first | simpa using c3 | (simp at c3 ⊢; omega)
    clear c3
    have H' := Aside0.mk H
    clear H
    go_enter Tryz.func18, Tryz.ntmps18
    go_wp2
    repeat (go_quiet (fail); try go_wp2)
    go_loopg [5] k (fun kq v5 w' => ∃ (x5_1 : Int), v5 = .int .i64 x5_1 ∧ Aside0 (posthornref21_SameTimes.l0 kq l0 l1 x5_1 = some r) ∧ Aside0 (kq ≤ k) ∧ Drawn0 w w')
    case atStart => exact ⟨(0), (by first | rfl | (simp; done) | (simp [*]; done)), H', ⟨Nat.le_refl _⟩, by repeat (first | exact Drawn0.refl _ | apply Drawn0.step)⟩
    case round =>
      clear H'
      try clear c1
      try clear p2
      try clear c3
      try clear c3b0
      try clear c3b1
      try clear c3b2
      obtain ⟨x5_1, rfl, HA, HK1, ⟨m1, rfl⟩⟩ := hrel
      cases gk with
      | zero => exact absurd HA.out (by simp [posthornref21_SameTimes.l0])
      | succ k1 =>
        have H := HA.out
        clear HA
        simp only [posthornref21_SameTimes.l0] at H
        by_cases c4 : x5_1 < (l0.length : Int)
        · rw [if_pos c4] at H
          have c4b0 : decide (x5_1 < (l0.length : Int)) = true := decide_eq_true c4
          clear c4
          by_cases c5 : 0 ≤ x5_1
          · rw [if_pos c5] at H
            have c5b0 : decide (0 ≤ x5_1) = true := decide_eq_true c5
            clear c5
            by_cases c6 : x5_1 < (l1.length : Int)
            · rw [if_pos c6] at H
              have c6b0 : decide (x5_1 < (l1.length : Int)) = true := decide_eq_true c6
              clear c6
              by_cases c7 : (rd l0 x5_1) = (rd l1 x5_1)
              · rw [if_pos c7] at H
                have c7b0 : ((rd l0 x5_1) == (rd l1 x5_1)) = true := beq_iff_eq.mpr c7
                have c7b1 : ((rd l0 x5_1) != (rd l1 x5_1)) = false := bne_eq_false_iff_eq.mpr c7
                clear c7
                have H' := Aside0.mk H
                clear H
                have p366 : 0 ≤ (x5_1 : Int) := of_decide_eq_true (by first | (with_reducible assumption) | assumption)
                have q366 : x5_1 < (l0.length : Int) := of_decide_eq_true (by first | (with_reducible assumption) | assumption)
                obtain ⟨ad366, e366, hx366_0⟩ := Kd.at_int HR0.out x5_1 p366 q366
                cases e366
                replace p366 := eq_true p366
                replace q366 := eq_true q366
                have p367 : 0 ≤ (x5_1 : Int) := of_decide_eq_true (by first | (with_reducible assumption) | assumption)
                have q367 : x5_1 < (l1.length : Int) := of_decide_eq_true (by first | (with_reducible assumption) | assumption)
                obtain ⟨ad367, e367, hx367_0⟩ := Kd.at_int HR1.out x5_1 p367 q367
                cases e367
                replace p367 := eq_true p367
                replace q367 := eq_true q367
                go_wp2
                repeat (go_quiet (fail); try go_wp2)
                go_roundg k1
                case measure => have := HK1.out; omega
                case rel => exact ⟨(wrap64 (x5_1 + 1)), (by first | rfl | (simp; done) | (simp [*]; done)), H', ⟨by have := HK1.out; omega⟩, by repeat (first | exact Drawn0.refl _ | apply Drawn0.step)⟩
              · rw [if_neg c7] at H
                have c7b0 : ((rd l0 x5_1) == (rd l1 x5_1)) = false := beq_eq_false_iff_ne.mpr c7
                have c7b1 : ((rd l0 x5_1) != (rd l1 x5_1)) = true := bne_iff_ne.mpr c7
                obtain rfl := Option.some.inj H
                have p366 : 0 ≤ (x5_1 : Int) := of_decide_eq_true (by first | (with_reducible assumption) | assumption)
                have q366 : x5_1 < (l0.length : Int) := of_decide_eq_true (by first | (with_reducible assumption) | assumption)
                obtain ⟨ad366, e366, hx366_0⟩ := Kd.at_int HR0.out x5_1 p366 q366
                cases e366
                replace p366 := eq_true p366
                replace q366 := eq_true q366
                have p367 : 0 ≤ (x5_1 : Int) := of_decide_eq_true (by first | (with_reducible assumption) | assumption)
                have q367 : x5_1 < (l1.length : Int) := of_decide_eq_true (by first | (with_reducible assumption) | assumption)
                obtain ⟨ad367, e367, hx367_0⟩ := Kd.at_int HR1.out x5_1 p367 q367
                cases e367
                replace p367 := eq_true p367
                replace q367 := eq_true q367
                go_wp2
                repeat (go_quiet (fail); try go_wp2)
                go_ret
                exact ⟨by first | rfl | (simp; done) | (simp [*]; done), by repeat (first | exact Drawn0.refl _ | apply Drawn0.step)⟩
            · rw [if_neg c6] at H
              exact absurd H (by simp)
          · rw [if_neg c5] at H
            exact absurd H (by simp)
        · rw [if_neg c4] at H
          have c4b0 : decide (x5_1 < (l0.length : Int)) = false := decide_eq_false c4
          clear c4
          obtain rfl := Option.some.inj H
          go_wp2
          repeat (go_quiet (fail); try go_wp2)
          go_ret
          exact ⟨by first | rfl | (simp; done) | (simp [*]; done), by repeat (first | exact Drawn0.refl _ | apply Drawn0.step)⟩
  · rw [if_neg c3] at H
    have c3b0 : ((l0.length : Int) == (l1.length : Int)) = false := beq_eq_false_iff_ne.mpr c3
    have c3b1 : ((l0.length : Int) != (l1.length : Int)) = true := bne_iff_ne.mpr c3
    have c3b2 : (l0.length == l1.length) = false := by first | simpa using c3 | (simp at c3 ⊢; omega)
    obtain rfl := Option.some.inj H
    go_enter Tryz.func18, Tryz.ntmps18
    go_wp2
    repeat (go_quiet (fail); try go_wp2)
    go_ret
    exact ⟨by first | rfl | (simp; done) | (simp [*]; done), by repeat (first | exact Drawn0.refl _ | apply Drawn0.step)⟩
end Go.Proofs.YtfbmjonhohebiaaGreatDoor.PRecurExpands
end
section
namespace Go.Proofs.YtfbmjonhohebiaaGreatDoor.PRecurExpands
open Go.RowKit Go.Proofs.YtfbmjonhohebiaaGreatDoorW.PrintWords Go.Proofs.YtfbmjonhohebiaaGreatDoorW.PrintLast Go.Proofs.YtfbmjonhohebiaaGreatDoorW.PrintMore
set_option linter.unusedVariables false
set_option linter.unusedSimpArgs false
theorem eqA60 (d : Nat) (w : World) (x0 y0 : Int) (x1 y1 : Int) :
    (Op.equalIn (d + 2) 60 (.agg #[.int .i64 x0, .int .i64 x1]) (.agg #[.int .i64 y0, .int .i64 y1])).run Tryz.prog w = .ok (x0 == y0 && (x1 == y1)) w := by
  refine eqA_of Tryz.underlying60 (by kernel_rfl) ?_
  refine eqf_cons (by rfl) (by go_simp; rfl) (by go_simp; rfl) (by go_simp) ?_
  exact eqf_last (by rfl) (by go_simp; rfl) (by go_simp; rfl) (by go_simp)
end Go.Proofs.YtfbmjonhohebiaaGreatDoor.PRecurExpands
end
