/- RecurExpands: a rule's times in a window are told, or what is wrong; the rule stays as it was: the tied card. Conditions: none but the row's own (the listed variables of Go's library read as its text lays them). -/
import Derived.Test.YtfbmjonhohebiaaGreatDoorQep
import Derived.Test.YtfbmjonhohebiaaGreatDoorQet
import Derived.Lib.SmallJoins
import Derived.Deep.Slices
import Derived.ChangeSame
import Derived.Test.YtfbmjonhohebiaaGreatDoorRows
import Derived.LaidSub
import Derived.MakeChecks
import Derived.Lay
import Derived.Lib.LaidTab
import Derived.Shelf.Vars
import Derived.ProofKit
import Derived.OpenShut
import Derived.ChangeOld
import Derived.Carry
import Derived.Test.YtfbmjonhohebiaaGreatDoorTie
import Derived.Test.YtfbmjonhohebiaaGreatDoorCards
import Derived.SevenTiedAt
import Derived.LaidMore
section
set_option linter.unusedVariables false
set_option linter.unusedSimpArgs false
namespace Go.Proofs.YtfbmjonhohebiaaGreatDoor
open Go.RowKit Go.Proofs.YtfbmjonhohebiaaGreatDoorW.PrintWords Go.Proofs.YtfbmjonhohebiaaGreatDoorW.PrintLast Go.Proofs.YtfbmjonhohebiaaGreatDoorW.PrintMore PRecurExpands
structure Lists (w : World) (A4 A5 A6 : Option Addr) (c4 c5 c6 : Nat) (l4 l5 : List Int) (l6 : List S59) : Prop where
  r4 : Kd.C (Kd.int .i64) w A4 l4.length l4
  k4 : l4.length ≤ c4
  r5 : Kd.C (Kd.int .i64) w A5 l5.length l5
  k5 : l5.length ≤ c5
  r6 : Kd.C k59 w A6 l6.length l6
  k6 : l6.length ≤ c6
theorem Lists.below {w w' : World} {A4 A5 A6 : Option Addr} {c4 c5 c6 : Nat} {l4 l5 : List Int} {l6 : List S59} (h : Lists w A4 A5 A6 c4 c5 c6 l4 l5 l6) (hb : Below w.heap.size w w') : Lists w' A4 A5 A6 c4 c5 c6 l4 l5 l6 :=
  ⟨Kd.C_below h.r4 hb, h.k4, Kd.C_below h.r5 hb, h.k5, Kd.C_below h.r6 hb, h.k6⟩
def greatB (l4 l5 : List Int) (l6 : List S59) : Bool := decide (100 < l4.length + l5.length) || decide (100 < l6.length)
theorem great_c {a0 a1 a2 a3 : Int} {A4 A5 A6 : Option Addr} {c4 c5 c6 : Nat} {l4 l5 : List Int} {l6 : List S59} {w : World} (h : Lists w A4 A5 A6 c4 c5 c6 l4 l5 l6) (m4 : l4.length ≤ maxLen) (m5 : l5.length ≤ maxLen) (hl : (l4.length + l5.length : Int) ≤ 9223372036854775807) :
    Calls Tryz.prog 10 #[.agg #[.int .i64 a0, .int .i64 a1, .int .i64 a2, .int .i64 a3, .slice A4 l4.length c4, .slice A5 l5.length c5, .slice A6 l6.length c6]] w fun e w' => e = .returned (.bool (greatB l4 l5 l6)) ∧ Below w.heap.size w w' := by
  refine posthornlaw21_Great.calls a0 a1 a2 a3 A4 c4 l4 A5 c5 l5 A6 c6 l6 _ w h.r4 h.k4 h.r5 h.k5 h.r6 h.k6 ?_
  unfold posthornlaw21_Great.f greatB
  rw [wrap64_in (by omega) hl]
  by_cases g : (l4.length : Int) + (l5.length : Int) > 100
  · rw [if_pos g, decide_eq_true (show 100 < l4.length + l5.length by omega), Bool.true_or]
  · rw [if_neg g, decide_eq_false (show ¬ 100 < l4.length + l5.length by omega), Bool.false_or]
    congr 1
    rw [Bool.eq_iff_iff, decide_eq_true_eq, decide_eq_true_eq]
    omega
theorem greatB_len {l4 l5 : List Int} {l6 : List S59} (h : greatB l4 l5 l6 = false) : l4.length ≤ 100 ∧ l5.length ≤ 100 ∧ l6.length ≤ 100 := by
  unfold greatB at h
  simp only [Bool.or_eq_false_iff, decide_eq_false_iff_not] at h
  omega
structure ListsR (w : World) (A4 A5 A7 : Option Addr) (c4 c5 c7 : Nat) (l4 l5 : List Int) (l6 : List S59) : Prop where
  r4 : Kd.C (Kd.int .i64) w A4 l4.length l4
  k4 : l4.length ≤ c4
  r5 : Kd.C (Kd.int .i64) w A5 l5.length l5
  k5 : l5.length ≤ c5
  r7 : Kd.C k60 w A7 l6.length (l6.map to60)
  k7 : l6.length ≤ c7
theorem ListsR.below {w w' : World} {A4 A5 A7 : Option Addr} {c4 c5 c7 : Nat} {l4 l5 : List Int} {l6 : List S59} (h : ListsR w A4 A5 A7 c4 c5 c7 l4 l5 l6) (hb : Below w.heap.size w w') : ListsR w' A4 A5 A7 c4 c5 c7 l4 l5 l6 :=
  ⟨Kd.C_below h.r4 hb, h.k4, Kd.C_below h.r5 hb, h.k5, Kd.C_below h.r7 hb, h.k7⟩
theorem ref_expand_c {a0 a1 a2 a3 : Int} {A4 A5 A7 : Option Addr} {c4 c5 c7 : Nat} {l4 l5 : List Int} {l6 : List S59} {b : Bool} (hb : b = true ↔ RightP a0 a1 a2 a3 l4 l5 l6) {first frm upt most : Int} {w : World} (h : ListsR w A4 A5 A7 c4 c5 c7 l4 l5 l6)
    (h4 : l4.length ≤ 1000000000) (h5 : l5.length ≤ 1000000000) (h6 : l6.length ≤ 1000000000) :
    Calls Tryz.prog 17 #[.agg #[.int .i64 a0, .int .i64 a1, .int .i64 a2, .int .i64 a3, .slice A4 l4.length c4, .slice A5 l5.length c5, .slice A7 l6.length c7], .int .i64 first, .int .i64 frm, .int .i64 upt, .int .i64 most] w fun e w' =>
      ∃ v : Value, e = .returned (.tuple #[v, .int .i64 (expE b first frm upt most)]) ∧ Kd.R (Kd.int .i64) 2 w' w.heap.size (fun _ => True) v (expV b a0 a1 a2 a3 l4 l5 l6 first frm upt most) ∧ Below w.heap.size w w' := by
  obtain ⟨k, hk⟩ := (ref_expand_ev a0 a1 a2 a3 l4 l5 l6 b hb first frm upt most h4 h5 h6).rounds
  have H := posthornref21_Expand.calls k a0 a1 a2 a3 A4 c4 l4 A5 c5 l5 A7 c7 (l6.map to60) _ _ _ _ _ _ w h.r4 h.k4 h.r5 h.k5 (by rw [List.length_map]; exact h.r7) (by rw [List.length_map]; exact h.k7) hk
  rw [List.length_map] at H
  exact H
end Go.Proofs.YtfbmjonhohebiaaGreatDoor
end
section
set_option linter.unusedVariables false
set_option linter.unusedSimpArgs false
namespace Go.Proofs.YtfbmjonhohebiaaGreatDoor
open Go.RowKit Go.Proofs.YtfbmjonhohebiaaGreatDoorW.PrintWords Go.Proofs.YtfbmjonhohebiaaGreatDoorW.PrintLast Go.Proofs.YtfbmjonhohebiaaGreatDoorW.PrintMore PRecurExpands
structure AliveC (G : World → Prop) : Prop where
  mono : ∀ {w w' : World}, G w → Below w.heap.size w w' → G w'
  calls : ∀ {w : World}, G w → Calls Tryz.prog 11 #[] w fun e w' => e = .returned (.bool true) ∧ Below w.heap.size w w'
theorem as_c {a0 a1 a2 a3 : Int} {A4 A5 A6 : Option Addr} {c4 c5 c6 : Nat} {l4 l5 : List Int} {l6 : List S59} {w : World} (h : Lists w A4 A5 A6 c4 c5 c6 l4 l5 l6) (h6 : l6.length ≤ 1000000000) :
    Calls Tryz.prog 14 #[.agg #[.int .i64 a0, .int .i64 a1, .int .i64 a2, .int .i64 a3, .slice A4 l4.length c4, .slice A5 l5.length c5, .slice A6 l6.length c6]] w fun e w' =>
      ∃ A7 c7, e = .returned (.agg #[.int .i64 a0, .int .i64 a1, .int .i64 a2, .int .i64 a3, .slice A4 l4.length c4, .slice A5 l5.length c5, .slice A7 l6.length c7]) ∧ Aside0 (ListsR w' A4 A5 A7 c4 c5 c7 l4 l5 l6) ∧ Below w.heap.size w w' := by
  refine (law21_As a0 a1 a2 a3 A4 A5 A6 l4.length l5.length c4 c5 c6 l6 w h.r6 h.k6 h6).mono ?_
  rintro e w' ⟨A7, c7, he, h7, k7, hb⟩
  rw [List.length_map] at he h7 k7
  exact ⟨A7, c7, he, ⟨⟨Kd.C_below h.r4 hb, h.k4, Kd.C_below h.r5 hb, h.k5, h7, k7⟩⟩, hb⟩
end Go.Proofs.YtfbmjonhohebiaaGreatDoor
end
section
set_option linter.unusedVariables false
set_option linter.unusedSimpArgs false
namespace Go.Proofs.YtfbmjonhohebiaaGreatDoor
open Go.RowKit Go.Proofs.YtfbmjonhohebiaaGreatDoorW.PrintWords Go.Proofs.YtfbmjonhohebiaaGreatDoorW.PrintLast Go.Proofs.YtfbmjonhohebiaaGreatDoorW.PrintMore PRecurExpands
theorem equal_ev (l : List Int) (hl : l.length ≤ 1000000000) : Ev (fun k => posthornlaw21_equal.f k l l) true := by
  unfold posthornlaw21_equal.f
  refine Ev.pos rfl ?_
  have key : ∀ d i : Nat, i + d = l.length → Ev (fun k => posthornlaw21_equal.l0 k l l (i : Int)) true := by
    intro d
    induction d with
    | zero => intro i hi; exact Ev.step (f := fun _ => some true) (fun k => by simp only [posthornlaw21_equal.l0]; rw [if_neg (by omega)]) (Ev.now _)
    | succ d ih =>
      intro i hi
      refine Ev.step (fun k => ?_) (ih (i + 1) (by omega))
      simp only [posthornlaw21_equal.l0]
      rw [if_pos (by omega), if_pos (by omega), if_pos (by omega), if_pos trivial, wrap64_in (by omega) (by omega)]
      rfl
  exact key l.length 0 (by omega)
theorem times_ev (l : List Int) (hl : l.length ≤ 1000000000) : Ev (fun k => posthornref21_SameTimes.f k l l) true := by
  unfold posthornref21_SameTimes.f
  refine Ev.pos rfl ?_
  have key : ∀ d i : Nat, i + d = l.length → Ev (fun k => posthornref21_SameTimes.l0 k l l (i : Int)) true := by
    intro d
    induction d with
    | zero => intro i hi; exact Ev.step (f := fun _ => some true) (fun k => by simp only [posthornref21_SameTimes.l0]; rw [if_neg (by omega)]) (Ev.now _)
    | succ d ih =>
      intro i hi
      refine Ev.step (fun k => ?_) (ih (i + 1) (by omega))
      simp only [posthornref21_SameTimes.l0]
      rw [if_pos (by omega), if_pos (by omega), if_pos (by omega), if_pos trivial, wrap64_in (by omega) (by omega)]
      rfl
  exact key l.length 0 (by omega)
theorem equal_c {l : List Int} {A B : Option Addr} {c d : Nat} {w : World} (hl : l.length ≤ 1000000000) (hA : Kd.C (Kd.int .i64) w A l.length l) (hc : l.length ≤ c) (hB : Kd.C (Kd.int .i64) w B l.length l) (hd : l.length ≤ d) :
    Calls Tryz.prog 32 #[.slice A l.length c, .slice B l.length d] w fun e w' => e = .returned (.bool true) ∧ Below w.heap.size w w' := by
  obtain ⟨k, hk⟩ := (equal_ev l hl).rounds
  exact (posthornlaw21_equal.calls k A c l B d l true w hA hc hB hd hk).mono fun e w' h => ⟨h.1, h.2.below⟩
theorem times_c {l : List Int} {A B : Option Addr} {c d : Nat} {w : World} (hl : l.length ≤ 1000000000) (hA : Kd.C (Kd.int .i64) w A l.length l) (hc : l.length ≤ c) (hB : Kd.C (Kd.int .i64) w B l.length l) (hd : l.length ≤ d) :
    Calls Tryz.prog 18 #[.slice A l.length c, .slice B l.length d] w fun e w' => e = .returned (.bool true) ∧ Below w.heap.size w w' := by
  obtain ⟨k, hk⟩ := (times_ev l hl).rounds
  exact (posthornref21_SameTimes.calls k A c l B d l true w hA hc hB hd hk).mono fun e w' h => ⟨h.1, h.2.below⟩
def farB (first upt : Int) : Bool := decide (8589934592 < first) && decide (first < upt) && decide (67108864 < upt - first)
theorem far_c (first upt : Int) (w : World) (hf0 : -9223372036854775808 ≤ first) (hu : upt ≤ 9223372036854775807) :
    Calls Tryz.prog 15 #[.int .i64 first, .int .i64 upt] w fun e w' => e = .returned (.bool (farB first upt)) ∧ Below w.heap.size w w' := by
  refine (posthornlaw21_Far.calls first upt (farB first upt) w ?_).mono fun e w' h => ⟨h.1, h.2.below⟩
  unfold posthornlaw21_Far.f farB
  by_cases h1 : first > 8589934592
  · rw [if_pos h1, decide_eq_true (show 8589934592 < first from h1), Bool.true_and]
    by_cases h2 : upt > first
    · rw [if_pos h2, decide_eq_true (show first < upt from h2), Bool.true_and, wrap64_in (by omega) (by omega)]
    · rw [if_neg h2, decide_eq_false (show ¬ first < upt from h2), Bool.false_and]
  · rw [if_neg h1, decide_eq_false (show ¬ 8589934592 < first from h1), Bool.false_and, Bool.false_and]
theorem rec_expand_c {a0 a1 a2 a3 : Int} {A4 A5 A6 : Option Addr} {c4 c5 c6 : Nat} {l4 l5 : List Int} {l6 : List S59} {b : Bool} (hb : b = true ↔ RightP a0 a1 a2 a3 l4 l5 l6) {first frm upt most : Int} {w : World} (h : Lists w A4 A5 A6 c4 c5 c6 l4 l5 l6)
    (h4 : l4.length ≤ 1000000000) (h5 : l5.length ≤ 1000000000) (h6 : l6.length ≤ 1000000000) :
    Calls Tryz.prog 16 #[.agg #[.int .i64 a0, .int .i64 a1, .int .i64 a2, .int .i64 a3, .slice A4 l4.length c4, .slice A5 l5.length c5, .slice A6 l6.length c6], .int .i64 first, .int .i64 frm, .int .i64 upt, .int .i64 most] w fun e w' =>
      ∃ L A c, Aside0 (L = expV b a0 a1 a2 a3 l4 l5 l6 first frm upt most) ∧ e = .returned (.tuple #[.slice A L.length c, .int .i64 (expE b first frm upt most)]) ∧ Aside0 (Kd.C (Kd.int .i64) w' A L.length L ∧ L.length ≤ c) ∧ Below w.heap.size w w' := by
  by_cases he : expE b first frm upt most = 0
  · have hbt : b = true := by
      cases b with
      | true => rfl
      | false => simp [expE] at he
    have hx : timeS first = true ∧ timeS frm = true ∧ timeS upt = true ∧ ¬ 631152000 < upt - first ∧ ¬ most < 1 ∧ ¬ 1000 < most := by
      unfold expE at he
      rw [if_neg (by rw [hbt]; decide)] at he
      split at he
      · cases he
      · rename_i hn
        split at he
        · cases he
        · rename_i hm
          refine ⟨?_, ?_, ?_, by omega, by omega, by omega⟩
          · cases ht : timeS first with | true => rfl | false => exact absurd (.inl ht) hn
          · cases ht : timeS frm with | true => rfl | false => exact absurd (.inr (.inl ht)) hn
          · cases ht : timeS upt with | true => rfl | false => exact absurd (.inr (.inr ht)) hn
    obtain ⟨t1, t2, t3, x1, x2, x3⟩ := hx
    have hR := hb.mp hbt
    refine (recur_Expand_ok a0 a1 a2 a3 A4 A5 A6 c4 c5 c6 l4 l5 l6 hR first frm upt most w h.r4 h.k4 h.r5 h.k5 h.r6 h.k6 h4 h5 h6 t1 t2 t3 x1 x2 x3).mono ?_
    rintro e w' ⟨v, rfl, hown, hbw⟩
    rw [daysV_hits _ _ _ _ _ _ _ hR.i0] at hown
    have hL : expGo first frm upt a2 a3 most (hitsV a0 a1 l4 l5 l6 (first / 86400) (upt / 86400)) [] 0 = expV b a0 a1 a2 a3 l4 l5 l6 first frm upt most := by unfold expV; rw [if_pos he]
    rw [hL] at hown
    obtain ⟨A, c, rfl, hc, hC⟩ := Kd.R_reads (d := Kd.int .i64) (e := 2) (base := w.heap.size) (ok := fun _ => True) (Kd.R_of_own hown (fun _ _ => trivial))
    exact ⟨_, A, c, ⟨rfl⟩, by rw [he], ⟨hC, hc⟩, hbw⟩
  · refine (recur_Expand_bad a0 a1 a2 a3 A4 A5 A6 c4 c5 c6 l4 l5 l6 b hb first frm upt most w h.r4 h.k4 h.r5 h.k5 h.r6 h.k6 h4 h5 h6 he).mono ?_
    rintro e w' ⟨rfl, hbw⟩
    have hL : ([] : List Int) = expV b a0 a1 a2 a3 l4 l5 l6 first frm upt most := by unfold expV; rw [if_neg he]
    exact ⟨[], none, 0, ⟨hL⟩, rfl, ⟨⟨rfl, by simp, fun hn => by simp at hn⟩, Nat.le_refl _⟩, hbw⟩
theorem ref_expand_c' {a0 a1 a2 a3 : Int} {A4 A5 A7 : Option Addr} {c4 c5 c7 : Nat} {l4 l5 : List Int} {l6 : List S59} {b : Bool} (hb : b = true ↔ RightP a0 a1 a2 a3 l4 l5 l6) {first frm upt most : Int} {w : World} (h : ListsR w A4 A5 A7 c4 c5 c7 l4 l5 l6)
    (h4 : l4.length ≤ 1000000000) (h5 : l5.length ≤ 1000000000) (h6 : l6.length ≤ 1000000000) :
    Calls Tryz.prog 17 #[.agg #[.int .i64 a0, .int .i64 a1, .int .i64 a2, .int .i64 a3, .slice A4 l4.length c4, .slice A5 l5.length c5, .slice A7 l6.length c7], .int .i64 first, .int .i64 frm, .int .i64 upt, .int .i64 most] w fun e w' =>
      ∃ L A c, Aside0 (L = expV b a0 a1 a2 a3 l4 l5 l6 first frm upt most) ∧ e = .returned (.tuple #[.slice A L.length c, .int .i64 (expE b first frm upt most)]) ∧ Aside0 (Kd.C (Kd.int .i64) w' A L.length L ∧ L.length ≤ c) ∧ Below w.heap.size w w' := by
  refine (ref_expand_c hb h h4 h5 h6).mono ?_
  rintro e w' ⟨v, rfl, hR, hbw⟩
  obtain ⟨A, c, rfl, hc, hC⟩ := Kd.R_reads hR
  exact ⟨_, A, c, ⟨rfl⟩, rfl, ⟨hC, hc⟩, hbw⟩
theorem expGo_most (first frm upt c u most : Int) (hm : 0 ≤ most) : ∀ (ds out : List Int) (n : Int), (out.length : Int) ≤ most → ((expGo first frm upt c u most ds out n).length : Int) ≤ most := by
  intro ds
  induction ds with
  | nil => intro out n h; exact h
  | cons d ds ih =>
    intro out n h
    simp only [expGo]
    split
    · exact h
    · rename_i hst
      refine ih _ _ ?_
      split
      · have : ¬ ((out.length : Int) = most) := fun e => hst (by unfold stopB; rw [beq_iff_eq.mpr e]; simp)
        simp; omega
      · exact h
theorem expV_len (b : Bool) (a0 a1 a2 a3 : Int) (l4 l5 : List Int) (l6 : List S59) (first frm upt most : Int) : (expV b a0 a1 a2 a3 l4 l5 l6 first frm upt most).length ≤ 1000 := by
  unfold expV
  split
  · rename_i he
    have hm : 0 ≤ most ∧ most ≤ 1000 := by
      unfold expE at he
      split at he
      · cases he
      · split at he
        · cases he
        · split at he
          · cases he
          · omega
    have := expGo_most first frm upt a2 a3 most hm.1 (hitsV a0 a1 l4 l5 l6 (first / 86400) (upt / 86400)) [] 0 (by simp; omega)
    omega
  · simp
attribute [local go_sem high] eqA60
set_option maxRecDepth 100000 in
set_option maxHeartbeats 4000000 in

theorem same_c {a0 a1 a2 a3 : Int} {A4 A5 A6 B4 B5 B7 : Option Addr} {c4 c5 c6 d4 d5 d7 : Nat} {l4 l5 : List Int} {l6 : List S59} {w : World} (h : Lists w A4 A5 A6 c4 c5 c6 l4 l5 l6) (hR : ListsR w B4 B5 B7 d4 d5 d7 l4 l5 l6)
    (h4 : l4.length ≤ 1000000000) (h5 : l5.length ≤ 1000000000) (h6 : l6.length ≤ 1000000000) :
    Calls Tryz.prog 19 #[.agg #[.int .i64 a0, .int .i64 a1, .int .i64 a2, .int .i64 a3, .slice A4 l4.length c4, .slice A5 l5.length c5, .slice A6 l6.length c6], .agg #[.int .i64 a0, .int .i64 a1, .int .i64 a2, .int .i64 a3, .slice B4 l4.length d4, .slice B5 l5.length d5, .slice B7 l6.length d7]] w fun e w' =>
      e = .returned (.bool true) ∧ Below w.heap.size w w' := by
  have HL := Aside0.mk h
  have HR := Aside0.mk hR
  clear h hR
  have HB := Aside0.mk (((Below.refl w.heap.size w).alloc (Nat.le_refl _) (.cells #[.int .i64 a0, .int .i64 a1, .int .i64 a2, .int .i64 a3, .slice A4 l4.length c4, .slice A5 l5.length c5, .slice A6 l6.length c6] 25)).alloc (by simp) (.cells #[.int .i64 a0, .int .i64 a1, .int .i64 a2, .int .i64 a3, .slice B4 l4.length d4, .slice B5 l5.length d5, .slice B7 l6.length d7] 34))
  go_enter Tryz.func19, Tryz.ntmps19
  go_wp2_with (first
    | (go_at_call 14; refine (as_c (HL.out.below HB.out) h6).mono ?_; rintro e w2 ⟨A7, c7, rfl, HR7, hb2⟩; obtain ⟨hc2, hf2⟩ := bcell hb2; have hz : w.heap.size + 1 < w2.heap.size := (by have := hb2.size; simp at this; omega); have HB' := Aside0.mk (HB.out.trans (hb2.mono HB.out.size)); have HR' := Aside0.mk ((HR.out.below HB.out).below hb2); clear HB HR hb2; have HB := HB'; have HR := HR'; clear HB' HR'; have HX := Aside0.mk (Below.refl w2.heap.size w2))
    | (go_at_call 32; ((with_reducible refine (equal_c (l := l4) (A := A4) (B := B4) (c := c4) (d := d4) h4 (HR7.out.below (HX.out.alloc HX.out.size _)).r4 HR7.out.k4 (HR.out.below (HX.out.alloc HX.out.size _)).r4 HR.out.k4).mono ?_); rintro e w3 ⟨rfl, hb3⟩; obtain ⟨hc3, hf3⟩ := bcell hb3; have HX' : Aside0 (Below w2.heap.size w2 w3) := ⟨(HX.out.alloc HX.out.size _).trans (hb3.mono (by have := HX.out.size; simp))⟩; have hz3 : w2.heap.size < w3.heap.size := (by have := hb3.size; simp at this; omega); have hz4 : w.heap.size + 1 < w2.heap.size + 1 := (by omega); have hz5 : w.heap.size < w2.heap.size + 1 := (by omega); clear HX hb3; have HX := HX'; clear HX'))
    | (go_at_call 32; ((with_reducible refine (equal_c (l := l5) (A := A5) (B := B5) (c := c5) (d := d5) h5 (HR7.out.below HX.out).r5 HR7.out.k5 (HR.out.below HX.out).r5 HR.out.k5).mono ?_); rintro e w4 ⟨rfl, hb4⟩; obtain ⟨hc4, hf4⟩ := bcell hb4; have HX' : Aside0 (Below w2.heap.size w2 w4) := ⟨HX.out.trans (hb4.mono HX.out.size)⟩; have hz6 : w2.heap.size < w4.heap.size := Nat.lt_of_lt_of_le hz3 hb4.size; have hz7 : w.heap.size + 1 < w3.heap.size := (by omega); have hz8 : w.heap.size < w3.heap.size := (by omega); clear HX hb4; have HX := HX'; clear HX')))
  have hq1 : w4.cell? ⟨w2.heap.size, 6, none⟩ = some (.slice A7 l6.length c7) := by
    rw [hc4 _ _ hz3, hc3 _ _ (by simp)]
    exact blk_cell (heap_alloc_new _ _) 6
  have hq2 : w4.cell? ⟨w.heap.size + 1, 6, none⟩ = some (.slice B7 l6.length d7) := by
    rw [hc4 _ _ hz7, hc3 _ _ (by simp; omega), World.cell?_alloc_lt _ _ _ (by simp; omega), hc2 _ _ (by simp)]
    simp
  have hfin : Below w.heap.size w w4 := HB.out.trans (HX.out.mono HB.out.size)
  have HFN := Aside0.mk hfin
  have HA7 := Aside0.mk (Kd.C_below HR7.out.r7 HX.out)
  have HB7 := Aside0.mk (Kd.C_below HR.out.r7 HX.out)
  clear hfin hc2 hc3 hc4 hf2 hf3 hf4
  go_loopw [6] (fun i wr => ∃ k n : Nat, i = .int .i64 k ∧ k ≤ l6.length ∧ wr = w4.drewN n) (fun i _ => l6.length - (intOf i).toNat)
  case atStart => exact ⟨0, 0, rfl, Nat.zero_le _, rfl⟩
  case round =>
    obtain ⟨k, n, rfl, hk, rfl⟩ := hrel
    by_cases hlt : k < l6.length
    · have hlt' : (k : Int) < (l6.length : Int) := by omega
      have hk0 : (0 : Int) ≤ (k : Int) := Int.natCast_nonneg _
      obtain ⟨ad, had, hx0, hx1⟩ := at_T60 HA7.out (k : Int) hk0 hlt'
      obtain ⟨be, hbe, hy0, hy1⟩ := at_T60 HB7.out (k : Int) hk0 hlt'
      subst had hbe
      rw [Int.toNat_natCast] at hx0 hx1 hy0 hy1
      generalize rd_T60 (l6.map to60) (k : Int) = x at hx0 hx1 hy0 hy1
      obtain ⟨x0, x1⟩ := x
      simp only at hx0 hx1 hy0 hy1
      go_wp2
      repeat (go_quiet (fail); try go_wp2)
      exact ⟨⟨k + 1, n + nq, by go_num, by omega, rfl⟩, by simp [intOf]; omega⟩
    · go_wp2
      go_ret
      exact ⟨rfl, pw_below_drewN HFN.out n⟩
end Go.Proofs.YtfbmjonhohebiaaGreatDoor
end
section
set_option linter.unusedVariables false
set_option linter.unusedSimpArgs false
namespace Go.Proofs.YtfbmjonhohebiaaGreatDoor
open Go.RowKit Go.Proofs.YtfbmjonhohebiaaGreatDoorW.PrintWords Go.Proofs.YtfbmjonhohebiaaGreatDoorW.PrintLast Go.Proofs.YtfbmjonhohebiaaGreatDoorW.PrintMore PRecurExpands
set_option maxRecDepth 100000 in
set_option maxHeartbeats 4000000 in
theorem law_expands {G : World → Prop} (hA : AliveC G) {a0 a1 a2 a3 : Int} {A4 A5 A6 : Option Addr} {c4 c5 c6 : Nat} {l4 l5 : List Int} {l6 : List S59} {w : World} (h : Lists w A4 A5 A6 c4 c5 c6 l4 l5 l6) (m4 : l4.length ≤ maxLen) (m5 : l5.length ≤ maxLen) (hl : (l4.length + l5.length : Int) ≤ 9223372036854775807)
    (first frm upt most : Int) (hf0 : -9223372036854775808 ≤ first) (hu : upt ≤ 9223372036854775807) (hg : G w) :
    Calls Tryz.prog 4 #[.agg #[.int .i64 a0, .int .i64 a1, .int .i64 a2, .int .i64 a3, .slice A4 l4.length c4, .slice A5 l5.length c5, .slice A6 l6.length c6], .int .i64 first, .int .i64 frm, .int .i64 upt, .int .i64 most] w fun e w' =>
      e = .returned (.bool true) ∧ Below w.heap.size w w' := by
  have HL := Aside0.mk h
  have HG := Aside0.mk hg
  have HA := Aside0.mk hA
  have HF : Aside0 (-9223372036854775808 ≤ first ∧ upt ≤ 9223372036854775807) := ⟨⟨hf0, hu⟩⟩
  clear h hg hA hf0 hu
  have HB := Aside0.mk ((Below.refl w.heap.size w).alloc (Nat.le_refl _) (.cells #[.int .i64 a0, .int .i64 a1, .int .i64 a2, .int .i64 a3, .slice A4 l4.length c4, .slice A5 l5.length c5, .slice A6 l6.length c6] 25))
  have hz : w.heap.size < (w.alloc (.cells #[.int .i64 a0, .int .i64 a1, .int .i64 a2, .int .i64 a3, .slice A4 l4.length c4, .slice A5 l5.length c5, .slice A6 l6.length c6] 25)).heap.size := by simp
  have HM : Aside0 (l4.length ≤ maxLen ∧ l5.length ≤ maxLen ∧ (l4.length + l5.length : Int) ≤ 9223372036854775807) := ⟨⟨m4, m5, hl⟩⟩
  clear m4 m5 hl
  obtain ⟨b, HBB⟩ : ∃ b : Bool, Aside0 (b = true ↔ RightP a0 a1 a2 a3 l4 l5 l6) := by
    classical
    exact ⟨decide (RightP a0 a1 a2 a3 l4 l5 l6), ⟨by simp⟩⟩
  by_cases hgr : greatB l4 l5 l6 = true
  · go_enter Tryz.func4, Tryz.ntmps4
    go_wp2_with (first
      | (go_at_call 10; refine (great_c (HL.out.below HB.out) HM.out.1 HM.out.2.1 HM.out.2.2).mono ?_; rintro e w2 ⟨rfl, hb2⟩; obtain ⟨hc2, hf2⟩ := bcell hb2; have hz : w.heap.size < w2.heap.size := Nat.lt_of_lt_of_le hz hb2.size; have HB' := Aside0.mk (HB.out.trans (hb2.mono HB.out.size)); clear HB hb2; have HB := HB'; clear HB')
      | (go_at_call 11; refine (HA.out.calls (HA.out.mono HG.out HB.out)).mono ?_; rintro e w2 ⟨rfl, hb2⟩; obtain ⟨hc2, hf2⟩ := bcell hb2; have hz : w.heap.size < w2.heap.size := Nat.lt_of_lt_of_le hz hb2.size; have HB' := Aside0.mk (HB.out.trans (hb2.mono HB.out.size)); clear HB hb2; have HB := HB'; clear HB'))
    go_ret
    exact ⟨rfl, HB.out⟩
  · have hgr' : greatB l4 l5 l6 = false := by simpa using hgr
    clear hgr
    obtain ⟨g4, g5, g6⟩ := greatB_len hgr'
    by_cases hfr : farB first upt = true
    · go_enter Tryz.func4, Tryz.ntmps4
      go_wp2_with (first
        | (go_at_call 10; refine (great_c (HL.out.below HB.out) HM.out.1 HM.out.2.1 HM.out.2.2).mono ?_; rintro e w2 ⟨rfl, hb2⟩; obtain ⟨hc2, hf2⟩ := bcell hb2; have hz : w.heap.size < w2.heap.size := Nat.lt_of_lt_of_le hz hb2.size; have HB' := Aside0.mk (HB.out.trans (hb2.mono HB.out.size)); clear HB hb2; have HB := HB'; clear HB')
        | (go_at_call 15; refine (far_c first upt _ HF.out.1 HF.out.2).mono ?_; rintro e w2 ⟨rfl, hb2⟩; obtain ⟨hc2, hf2⟩ := bcell hb2; have hz : w.heap.size < w2.heap.size := Nat.lt_of_lt_of_le hz hb2.size; have HB' := Aside0.mk (HB.out.trans (hb2.mono HB.out.size)); clear HB hb2; have HB := HB'; clear HB')
        | (go_at_call 11; refine (HA.out.calls (HA.out.mono HG.out HB.out)).mono ?_; rintro e w2 ⟨rfl, hb2⟩; obtain ⟨hc2, hf2⟩ := bcell hb2; have hz : w.heap.size < w2.heap.size := Nat.lt_of_lt_of_le hz hb2.size; have HB' := Aside0.mk (HB.out.trans (hb2.mono HB.out.size)); clear HB hb2; have HB := HB'; clear HB'))
      go_ret
      exact ⟨rfl, HB.out⟩
    · have hfr' : farB first upt = false := by simpa using hfr
      clear hfr
      go_enter Tryz.func4, Tryz.ntmps4
      go_wp2_with (first
        | (go_at_call 10; refine (great_c (HL.out.below HB.out) HM.out.1 HM.out.2.1 HM.out.2.2).mono ?_; rintro e w2 ⟨rfl, hb2⟩; obtain ⟨hc2, hf2⟩ := bcell hb2; have hz : w.heap.size < w2.heap.size := Nat.lt_of_lt_of_le hz hb2.size; have HB' := Aside0.mk (HB.out.trans (hb2.mono HB.out.size)); clear HB hb2; have HB := HB'; clear HB')
        | (go_at_call 15; refine (far_c first upt _ HF.out.1 HF.out.2).mono ?_; rintro e w2 ⟨rfl, hb2⟩; obtain ⟨hc2, hf2⟩ := bcell hb2; have hz : w.heap.size < w2.heap.size := Nat.lt_of_lt_of_le hz hb2.size; have HB' := Aside0.mk (HB.out.trans (hb2.mono HB.out.size)); clear HB hb2; have HB := HB'; clear HB')
        | (go_at_call 14; refine (as_c (HL.out.below HB.out) (by omega)).mono ?_; rintro e ws ⟨A7, c7, rfl, HR7, hb2⟩; obtain ⟨hc2, hf2⟩ := bcell hb2; have hz : w.heap.size < ws.heap.size := Nat.lt_of_lt_of_le hz hb2.size; have HB' := Aside0.mk (HB.out.trans (hb2.mono HB.out.size)); clear HB hb2; have HB := HB'; clear HB')
        | (go_at_call 16; refine (rec_expand_c HBB.out (HL.out.below (HB.out.alloc HB.out.size _)) (by omega) (by omega) (by omega)).mono ?_; rintro e wx ⟨La, Aa, ca, HLa, rfl, HCa, hbx⟩; obtain ⟨hcx, hfx⟩ := bcell hbx; have hlen : La.length ≤ 1000 := (by rw [HLa.out]; exact expV_len _ _ _ _ _ _ _ _ _ _ _ _); have hzx : ws.heap.size < wx.heap.size := (by have := hbx.size; simp at this; omega); have hzy : w.heap.size < ws.heap.size + 1 := (by omega); have HX := Aside0.mk (((Below.refl _ ws).alloc (Nat.le_refl _) _).trans (hbx.mono (by simp))); clear hbx)
        | (go_at_call 17; refine (ref_expand_c' HBB.out (HR7.out.below HX.out) (by omega) (by omega) (by omega)).mono ?_; rintro e wy ⟨Lb, Ab, cb, HLb, rfl, HCb, hby⟩; obtain ⟨hcy, hfy⟩ := bcell hby; have hz1 : ws.heap.size < wy.heap.size := Nat.lt_of_lt_of_le hzx hby.size; have hz2 : w.heap.size < wx.heap.size := (by omega); have HX' := Aside0.mk (HX.out.trans (hby.mono HX.out.size)); have HCa' := Aside0.mk (Kd.C_below HCa.out.1 hby); clear HX hby; have HX := HX'; clear HX')
        | (go_at_call 11; refine (HA.out.calls (HA.out.mono HG.out (HB.out.trans (HX.out.mono HB.out.size)))).mono ?_; rintro e wz ⟨rfl, hbz⟩; obtain ⟨hcz, hfz⟩ := bcell hbz; have hz3 : ws.heap.size < wz.heap.size := Nat.lt_of_lt_of_le hz1 hbz.size; have hz4 : w.heap.size < wy.heap.size := (by omega); have HX' := Aside0.mk (HX.out.trans (hbz.mono HX.out.size)); have HCa2 := Aside0.mk (Kd.C_below HCa'.out hbz); have HCb2 := Aside0.mk (Kd.C_below HCb.out.1 hbz); have hlab := HLa.out.trans HLb.out.symm; clear HX hbz; have HX := HX'; clear HX'; subst hlab)
        | (go_at_call 18; refine (times_c (by omega) HCa2.out HCa.out.2 HCb2.out HCb.out.2).mono ?_; rintro e wt ⟨rfl, hbt⟩; obtain ⟨hct, hft⟩ := bcell hbt; have hz5 : ws.heap.size < wt.heap.size := Nat.lt_of_lt_of_le hz3 hbt.size; have hz6 : w.heap.size < wz.heap.size := (by omega); have HX' := Aside0.mk (HX.out.trans (hbt.mono HX.out.size)); clear HX hbt; have HX := HX'; clear HX')
        | (go_at_call 19; refine (same_c (HL.out.below (HB.out.trans (HX.out.mono HB.out.size))) (HR7.out.below HX.out) (by omega) (by omega) (by omega)).mono ?_; rintro e wu ⟨rfl, hbu⟩))
      go_ret
      exact ⟨ret_bool (by simp), (HB.out.trans (HX.out.mono HB.out.size)).trans (hbu.mono (by have h1 := HB.out.size; have h2 := HX.out.size; omega))⟩
end Go.Proofs.YtfbmjonhohebiaaGreatDoor
end
section
set_option linter.unusedVariables false
set_option linter.unusedSimpArgs false
namespace Go.Proofs.YtfbmjonhohebiaaGreatDoor
open Go.RowKit Go.Joins Go.ChangeShapes Go.WideShapes Go.Deep Go.Proofs.YtfbmjonhohebiaaGreatDoorW.PrintWords Go.Proofs.YtfbmjonhohebiaaGreatDoorW.PrintLast Go.Proofs.YtfbmjonhohebiaaGreatDoorW.PrintMore PRecurExpands
section
variable {H : Type} {enc : TypeId × Value → H} {P : Program} {w : World} {base : Nat} {held : Bool}
theorem open_agg7 {spare : Nat → Bool} {r : Reach} {b0 : Nat} {t : TypeId} {f0 f1 f2 f3 f4 f5 f6 : Field} {v : Value} {d : DataW H} {p : List MemPlace} (hs : P.underlying t = some (.struct #[f0, f1, f2, f3, f4, f5, f6])) (hone : oneCellFields P #[f0, f1, f2, f3, f4, f5, f6] = true) (hC : P.cellsOf t = 7)
    (hv : Value.okWide P w r b0 t v) (h : DataW.Trod enc P w base spare held t v d p) :
    ∃ (v0 v1 v2 v3 v4 v5 v6 : Value) (y0 y1 y2 y3 y4 y5 y6 : DataW H × List MemPlace) (n : Nat), v = .agg #[v0, v1, v2, v3, v4, v5, v6] ∧ d = .agg [y0.1, y1.1, y2.1, y3.1, y4.1, y5.1, y6.1] ∧
      DataW.trod enc P w base spare held n f0.type [v0] = some y0 ∧ DataW.trod enc P w base spare held n f1.type [v1] = some y1 ∧ DataW.trod enc P w base spare held n f2.type [v2] = some y2 ∧ DataW.trod enc P w base spare held n f3.type [v3] = some y3 ∧ DataW.trod enc P w base spare held n f4.type [v4] = some y4 ∧ DataW.trod enc P w base spare held n f5.type [v5] = some y5 ∧ DataW.trod enc P w base spare held n f6.type [v6] = some y6 := by
  obtain ⟨cs, rfl, hsz⟩ := okWide_struct hs hv
  obtain ⟨l⟩ := cs
  match l, hsz.trans hC with
  | [c0, c1, c2, c3, c4, c5, c6], _ =>
    obtain ⟨fuel, hf⟩ := h
    obtain ⟨xs, n, _, hx, _, hlen, hg⟩ := DataW.trod_struct hs hf
    obtain ⟨o0, k0⟩ := hone_of hone 0 f0 rfl
    obtain ⟨o1, k1⟩ := hone_of hone 1 f1 rfl
    obtain ⟨o2, k2⟩ := hone_of hone 2 f2 rfl
    obtain ⟨o3, k3⟩ := hone_of hone 3 f3 rfl
    obtain ⟨o4, k4⟩ := hone_of hone 4 f4 rfl
    obtain ⟨o5, k5⟩ := hone_of hone 5 f5 rfl
    obtain ⟨o6, k6⟩ := hone_of hone 6 f6 rfl
    match xs, hlen with
    | [y0, y1, y2, y3, y4, y5, y6], _ =>
      simp only [Prod.mk.injEq] at hx
      exact ⟨c0, c1, c2, c3, c4, c5, c6, y0, y1, y2, y3, y4, y5, y6, n, rfl, by simpa using hx.1, by simpa [Value.cells, o0, k0] using hg 0 f0 rfl, by simpa [Value.cells, o1, k1] using hg 1 f1 rfl, by simpa [Value.cells, o2, k2] using hg 2 f2 rfl, by simpa [Value.cells, o3, k3] using hg 3 f3 rfl, by simpa [Value.cells, o4, k4] using hg 4 f4 rfl, by simpa [Value.cells, o5, k5] using hg 5 f5 rfl, by simpa [Value.cells, o6, k6] using hg 6 f6 rfl⟩
theorem row_ints {t e : TypeId} {fuel : Nat} {v : Value} {x : DataW H × List MemPlace} (ht : P.underlying t = some (.slice e)) (he : P.underlying e = some (.int .i64)) (hc : P.cellsOf e = 1)
    (h : DataW.trod enc P w base (fun _ => true) held fuel t [v] = some x) :
    ∃ (A : Option Addr) (l : List Int) (c : Nat), v = .slice A l.length c ∧ Kd.C (Kd.int .i64) w A l.length l ∧ l.length ≤ c ∧ l.length ≤ maxLen ∧ ∀ n ∈ l, (Lit.int .i64 n).wf = true := by
  rcases open_ints ht he hc h with ⟨hcs, _⟩ | ⟨a, len, cap, zs, hcs, _, hl, hm, hz, _, hcell, hw⟩
  · simp only [List.cons.injEq, and_true] at hcs
    subst hcs
    exact ⟨none, [], 0, rfl, ⟨rfl, by simp, fun h => absurd h (by simp)⟩, Nat.le_refl _, Nat.zero_le _, fun n hn => by simp at hn⟩
  · simp only [List.cons.injEq, and_true] at hcs
    subst hcs
    obtain ⟨l, rfl, hr, h1, h2, h3⟩ := ReadsInt.ofRowC (.inr ⟨a, rfl, hl, hm, by simpa using hz, hcell, hw⟩)
    exact ⟨some a, l, cap, rfl, Kd.C_of_reads (d := (0 : Int)) (h1 := fun _ => rfl) hr, h3, h1, h2⟩
set_option maxRecDepth 100000 in

theorem row_week {fuel : Nat} {v : Value} {x : DataW H × List MemPlace} {t : TypeId} (ht : Tryz.prog.underlying t = some (.slice 59))
    (h : DataW.trod enc Tryz.prog w base (fun _ => true) held fuel t [v] = some x) :
    ∃ (A : Option Addr) (l : List S59) (c : Nat), v = .slice A l.length c ∧ Kd.C k59 w A l.length l ∧ l.length ≤ c ∧ l.length ≤ maxLen ∧ ∀ x ∈ l, (Lit.int .i64 x.f0).wf = true ∧ (Lit.int .i64 x.f1).wf = true := by
  rcases open_slice ht h with ⟨hcs, _⟩ | ⟨a, len, cap, m, n, D, Pl, hcs, _, hl, hm, hmm, _, hi⟩
  · simp only [List.cons.injEq, and_true] at hcs
    subst hcs
    exact ⟨none, [], 0, rfl, ⟨rfl, by simp, fun h => absurd h (by simp)⟩, Nat.le_refl _, Nat.zero_le _, fun n hn => by simp at hn⟩
  · simp only [List.cons.injEq, and_true] at hcs
    subst hcs
    simp only [if_true] at hmm
    obtain rfl : cap = m := hmm.symm
    have hC : Tryz.prog.cellsOf 59 = 2 := by kernel_rfl
    have c3 : Tryz.prog.cellsOf 3 = 1 := by kernel_rfl
    have each : ∀ i, i < len → ∃ y : S59, w.cell? (a.add (i * 2)) = some (.int .i64 y.f0) ∧ w.cell? (a.add (i * 2 + 1)) = some (.int .i64 y.f1) ∧ (Lit.int .i64 y.f0).wf = true ∧ (Lit.int .i64 y.f1).wf = true := by
      intro i hil
      obtain ⟨cs', hc, ht'⟩ := hi i (by omega)
      rw [hC] at hc
      obtain ⟨ys, n', hn', hy, hlen, hyl, hf⟩ := DataW.trod_struct Tryz.underlying59 ht'
      obtain ⟨_, hcl, hat⟩ := World.cells?_some hc
      match cs', hcl with
      | [c0, c1], _ =>
        have g0 : DataW.trod enc Tryz.prog w base (fun _ => true) held n' 3 (([c0, c1].drop 0).take (Tryz.prog.cellsOf 3)) = _ := hf 0 _ rfl
        have g1 : DataW.trod enc Tryz.prog w base (fun _ => true) held n' 3 (([c0, c1].drop 1).take (Tryz.prog.cellsOf 3)) = _ := hf 1 _ rfl
        have hyl2 : ys.length = 2 := hyl
        rw [c3, List.getElem?_eq_getElem (by omega)] at g0 g1
        obtain ⟨x0, e0, _, w0⟩ := DataW.trod_int Tryz.underlying3 (show DataW.trod enc Tryz.prog w base (fun _ => true) held n' 3 [c0] = _ from g0)
        obtain ⟨x1, e1, _, w1⟩ := DataW.trod_int Tryz.underlying3 (show DataW.trod enc Tryz.prog w base (fun _ => true) held n' 3 [c1] = _ from g1)
        simp only [List.cons.injEq, and_true] at e0 e1
        subst e0 e1
        have h0 := hat (i := 0) (by omega)
        have h1 := hat (i := 1) (by omega)
        exact ⟨⟨x0, x1⟩, by simpa [Go.Deep.add_add] using h0, by simpa [Go.Deep.add_add] using h1, w0, w1⟩
    have hch : ∃ f : Nat → S59, ∀ i, i < len → w.cell? (a.add (i * 2)) = some (.int .i64 (f i).f0) ∧ w.cell? (a.add (i * 2 + 1)) = some (.int .i64 (f i).f1) ∧ (Lit.int .i64 (f i).f0).wf = true ∧ (Lit.int .i64 (f i).f1).wf = true := by
      refine Classical.axiomOfChoice (r := fun (i : Nat) (y : S59) => i < len → w.cell? (a.add (i * 2)) = some (.int .i64 y.f0) ∧ w.cell? (a.add (i * 2 + 1)) = some (.int .i64 y.f1) ∧ (Lit.int .i64 y.f0).wf = true ∧ (Lit.int .i64 y.f1).wf = true) (fun i => ?_)
      by_cases hil : i < len
      · obtain ⟨y, hy⟩ := each i hil
        exact ⟨y, fun _ => hy⟩
      · exact ⟨⟨0, 0⟩, fun h => absurd h hil⟩
    obtain ⟨f, hf⟩ := hch
    have e : ((List.range len).map f).length = len := by simp
    have hm' : len ≤ maxLen := Nat.le_trans hl hm
    refine ⟨some a, (List.range len).map f, cap, by rw [e], ⟨rfl, by rw [e]; simpa [maxLen] using hm', fun _ => ⟨a, rfl, fun j p hj => ?_⟩⟩, by rw [e]; exact hl, by rw [e]; exact hm', fun y hy => ?_⟩
    · have hjl : j < len := by
        have := (List.getElem?_eq_some_iff.mp hj).1
        simpa using this
      obtain rfl : f j = p := by simpa [hjl] using hj
      obtain ⟨g0, g1, _⟩ := hf j hjl
      refine ⟨[.int .i64 (f j).f0, .int .i64 (f j).f1], rfl, k59_mk w (f j), fun i u hu => ?_⟩
      rw [show k59.sz = 2 from rfl]
      match i, hu with
      | 0, hu => simp at hu; subst hu; simpa using g0
      | 1, hu => simp at hu; subst hu; exact g1
    · obtain ⟨i, hi', rfl⟩ := List.mem_map.mp hy
      exact (hf i (by simpa using hi')).2.2
structure RuleIn (w : World) (v : Value) (a0 a1 a2 a3 : Int) (A4 A5 A6 : Option Addr) (c4 c5 c6 : Nat) (l4 l5 : List Int) (l6 : List S59) : Prop where
  eq : v = .agg #[.int .i64 a0, .int .i64 a1, .int .i64 a2, .int .i64 a3, .slice A4 l4.length c4, .slice A5 l5.length c5, .slice A6 l6.length c6]
  w0 : (Lit.int .i64 a0).wf = true
  w1 : (Lit.int .i64 a1).wf = true
  w2 : (Lit.int .i64 a2).wf = true
  w3 : (Lit.int .i64 a3).wf = true
  r4 : Kd.C (Kd.int .i64) w A4 l4.length l4
  r5 : Kd.C (Kd.int .i64) w A5 l5.length l5
  r6 : Kd.C k59 w A6 l6.length l6
  k4 : l4.length ≤ c4
  k5 : l5.length ≤ c5
  k6 : l6.length ≤ c6
  m4 : l4.length ≤ maxLen
  m5 : l5.length ≤ maxLen
  m6 : l6.length ≤ maxLen
  s4 : l4.length * 8 ≤ 140737488351232
  s5 : l5.length * 8 ≤ 140737488351232
  f4 : ∀ n ∈ l4, (Lit.int .i64 n).wf = true
  f5 : ∀ n ∈ l5, (Lit.int .i64 n).wf = true
  f6 : ∀ x ∈ l6, (Lit.int .i64 x.f0).wf = true ∧ (Lit.int .i64 x.f1).wf = true
set_option maxRecDepth 100000 in
theorem open_rule {r : Reach} {b0 : Nat} {v : Value} {d : DataW H} {p : List MemPlace} (hv : Value.okWide Tryz.prog w r b0 25 v) (h : DataW.Trod enc Tryz.prog w base (fun _ => true) held 25 v d p) (hw : ∀ x ∈ d.weights Tryz.prog 25, x ≤ reachBytes) :
    ∃ a0 a1 a2 a3 A4 A5 A6 c4 c5 c6 l4 l5 l6, RuleIn w v a0 a1 a2 a3 A4 A5 A6 c4 c5 c6 l4 l5 l6 := by
  obtain ⟨v0, v1, v2, v3, v4, v5, v6, y0, y1, y2, y3, y4, y5, y6, n, rfl, rfl, h0, h1, h2, h3, h4, h5, h6⟩ := open_agg7 Tryz.underlying25 (by kernel_rfl) (by kernel_rfl) hv h
  obtain ⟨a0, e0, _, w0⟩ := DataW.trod_int Tryz.underlying3 (show DataW.trod enc Tryz.prog w base (fun _ => true) held n 3 [v0] = _ from h0)
  obtain ⟨a1, e1, _, w1⟩ := DataW.trod_int Tryz.underlying3 (show DataW.trod enc Tryz.prog w base (fun _ => true) held n 3 [v1] = _ from h1)
  obtain ⟨a2, e2, _, w2⟩ := DataW.trod_int Tryz.underlying3 (show DataW.trod enc Tryz.prog w base (fun _ => true) held n 3 [v2] = _ from h2)
  obtain ⟨a3, e3, _, w3⟩ := DataW.trod_int Tryz.underlying2 (show DataW.trod enc Tryz.prog w base (fun _ => true) held n 2 [v3] = _ from h3)
  simp only [List.cons.injEq, and_true] at e0 e1 e2 e3
  subst e0 e1 e2 e3
  obtain ⟨A4, l4, c4, rfl, r4, k4, m4, f4⟩ := row_ints Tryz.underlying22 Tryz.underlying3 (by kernel_rfl) (show DataW.trod enc Tryz.prog w base (fun _ => true) held n 22 [v4] = _ from h4)
  obtain ⟨A5, l5, c5, rfl, r5, k5, m5, f5⟩ := row_ints Tryz.underlying22 Tryz.underlying3 (by kernel_rfl) (show DataW.trod enc Tryz.prog w base (fun _ => true) held n 22 [v5] = _ from h5)
  obtain ⟨A6, l6, c6, rfl, r6, k6, m6, f6⟩ := row_week Tryz.underlying23 (show DataW.trod enc Tryz.prog w base (fun _ => true) held n 23 [v6] = _ from h6)
  have hin : (DataW.weightsEach Tryz.prog [3, 3, 3, 2, 22, 22, 23] [y0.1, y1.1, y2.1, y3.1, y4.1, y5.1, y6.1]).all (· ≤ reachBytes) = true := by
    rw [List.all_eq_true]
    intro x hx
    rw [decide_eq_true_eq]
    refine hw x ?_
    unfold DataW.weights
    rw [Tryz.underlying25]
    exact hx
  have s4 := sized_ints hin (j := 4) (t := 22) rfl rfl Tryz.underlying22 Tryz.underlying3 (by kernel_rfl) (B := 8) (by kernel_rfl) (a := A4) (len := l4.length) (cap := c4) (ps := y4.2) ⟨n, h4⟩
  have s5 := sized_ints hin (j := 5) (t := 22) rfl rfl Tryz.underlying22 Tryz.underlying3 (by kernel_rfl) (B := 8) (by kernel_rfl) (a := A5) (len := l5.length) (cap := c5) (ps := y5.2) ⟨n, h5⟩
  exact ⟨a0, a1, a2, a3, A4, A5, A6, c4, c5, c6, l4, l5, l6, rfl, w0, w1, w2, w3, r4, r5, r6, k4, k5, k6, m4, m5, m6, s4, s5, f4, f5, f6⟩
end
end Go.Proofs.YtfbmjonhohebiaaGreatDoor
end
section
set_option linter.unusedVariables false
set_option linter.unusedSimpArgs false
namespace Go.Proofs.YtfbmjonhohebiaaGreatDoor
open Go.RowKit Go.ChangeShapes Go.WideShapes
theorem returns_laid {H : Type} {enc : TypeId × Value → H} {a : Assume} {C : Checked} {os : Os} {f : FuncId} {fn : Func} {s : ChangeSpec} {conds : List PathCond} {apart fresh handsOn again : Bool} {X : World → Array Value → Prop}
    (hX : ∀ (w w' : World) (args : Array Value), w.heap = w'.heap → X w args → X w' args)
    (own : ownKnob C.prog.godebug = none) (started : os.Started) (noInit : C.prog.inits.idxOf? f = none) (hfn : C.prog.funcs[f]? = some fn)
    (witness : ∃ (w : World) (tape : Tape) (i : Input), w.os = os ∧ (w.forCall tape i).Shaped C.prog ∧ i.vars = [] ∧ Input.okWide C.prog (w.forCall tape i) .any w.heap.size f i ∧
      ((s.pre enc C.prog fn conds apart (w.forCall tape i).memory i.args ∧ X (w.forCall tape i).memory i.args) ∧ sizedMet enc C.prog fn (OpenSpec.ofChange s) apart (w.forCall tape i).memory i.args) ∧ a.holds C.prog (lone (Frame.enter C.prog f i.args .normal) [] (w.forCall tape i)))
    (contract : ∀ (W : World) (base : Nat) (args : Array Value) (ds gs : List (DataW H)) (before : List MemPlace),
      (∀ (j : Nat) t v, fn.params[j]? = some t → args[j]? = some v → Value.okWide C.prog W .any base t v) →
      DataW.Whole enc C.prog fn.params.toList s.vars apart W args.toList ds gs before →
      (DataW.weightsEach C.prog (fn.params.toList ++ s.plain.varTypes C.prog) (ds ++ gs)).all (· ≤ reachBytes) = true → X W args → W.ShapedOpen C.prog →
      Calls C.prog f args W fun e W' => ∃ v, e = .returned v ∧ s.post enc C.prog fn apart fresh handsOn again W args v W') :
    ReturnsInHanded a C os f .any (fun w args => (s.pre enc C.prog fn conds apart w args ∧ X w args) ∧ sizedMet enc C.prog fn (OpenSpec.ofChange s) apart w args) (s.post enc C.prog fn apart fresh handsOn again) := by
  refine returnsInHanded_of_calls own started noInit witness ?_
  intro w tape i _ hsh _ hok hpre hholds
  obtain ⟨_, _, _, fn', hfn', _, _, _, _, hval⟩ := hok
  have e : fn' = fn := Option.some.inj (hfn'.symm.trans hfn)
  subst e
  obtain ⟨⟨⟨ds, gs, before, hw, hc⟩, hx⟩, hz⟩ := hpre
  have hw' := DataW.Whole.of_heap (w' := w.forCall tape i) (by rfl) hw
  refine (contract (w.forCall tape i) w.heap.size i.args ds gs before hval hw' (hz.weights hw) (hX _ _ _ (by rfl) hx) hsh).mono fun e W' ⟨v, he, hp⟩ => ?_
  subst he
  exact ChangeSpec.post_blind hp
theorem iface_of_trod {H : Type} {enc : TypeId × Value → H} {P : Program} {w : World} {base : Nat} {sp : Nat → Bool} {held : Bool} {fuel : Nat} {t : TypeId} {ms : Array (String × TypeId)} {cs : List Value} {n : String} {d : DataW H} {p : List MemPlace}
    (ht : P.underlying t = some (.interface ms)) (h : DataW.trod enc P w base sp held fuel t cs = some (.iface n d, p)) : ∃ u v, cs = [.iface u v] := by
  cases fuel with
  | zero => simp [DataW.trod] at h
  | succ k =>
    unfold DataW.trod at h
    rw [ht] at h
    split at h <;> simp_all
theorem laid_iface {P : Program} {W : World} {name n : String} {d : DataW Unit} {rest : List (String × DataW Unit)} {g : Nat} {t : TypeId} {ms : Array (String × TypeId)}
    (hg : P.globalNamed name = some g) (hty : (P.globals[g]?).map (·.type) = some t) (ht : P.underlying t = some (.interface ms))
    (h : laidMet P ((name, .iface n d) :: rest) W) : ∃ tp p, W.var? P name = some #[.iface tp p] := by
  obtain ⟨ps, ⟨g', t', cs, fuel, p, q, hg', ht', hvar, hd, _, _⟩, _⟩ := h
  obtain rfl := Option.some.inj (hg.symm.trans hg')
  obtain rfl := Option.some.inj (hty.symm.trans ht')
  obtain ⟨u, v, e⟩ := iface_of_trod ht hd
  exact ⟨u, v, by rw [hvar, Array.eq_one_of_toList e]⟩
theorem laid_size {P : Program} {W : World} {name : String} {d : DataW Unit} {rest : List (String × DataW Unit)} {g : Nat} (hg : P.globalNamed name = some g)
    (h : laidMet P ((name, d) :: rest) W) : g < W.heap.size := by
  obtain ⟨ps, ⟨g', t', cs, fuel, p, q, hg', ht', hvar, hd, _, _⟩, _⟩ := h
  obtain rfl := Option.some.inj (hg.symm.trans hg')
  rcases Nat.lt_or_ge g W.heap.size with hlt | hge
  · exact hlt
  · unfold World.var? at hvar
    rw [hg] at hvar
    simp [Array.getElem?_eq_none hge] at hvar
abbrev laidL : List (String × DataW Unit) := Rows.recurMatchesRow.laid
theorem globs_of {W : World} (hsh : W.ShapedOpen Tryz.prog) (hL : laidMetH Tryz.prog laidL W) : Globs W := by
  rw [MakeChecks.laidMetH_plain _ _ _ (by kernel_rfl)] at hL
  have h1 := hL.filter (fun x => x.1 == "internal/strconv.uint64pow10")
  have h2 := hL.filter (fun x => x.1 == "strconv.ErrSyntax")
  have h3 := hL.filter (fun x => x.1 == "strconv.ErrRange")
  have h4 := hL.filter (fun x => x.1 == "math/bits.deBruijn64tab")
  rw [show laidL.filter (fun x => x.1 == "internal/strconv.uint64pow10") = [("internal/strconv.uint64pow10", Lib.tabData .u64 Lib.pow10Tab)] from by kernel_rfl] at h1
  rw [show laidL.filter (fun x => x.1 == "strconv.ErrSyntax") = [("strconv.ErrSyntax", Rows.laid_strconv_ErrSyntax)] from by kernel_rfl] at h2
  rw [show laidL.filter (fun x => x.1 == "strconv.ErrRange") = [("strconv.ErrRange", Rows.laid_strconv_ErrRange)] from by kernel_rfl] at h3
  rw [show laidL.filter (fun x => x.1 == "math/bits.deBruijn64tab") = [("math/bits.deBruijn64tab", Rows.laid_math_bits_deBruijn64tab)] from by kernel_rfl] at h4
  refine ⟨?_, ?_, ?_, ?_, ?_⟩
  · have := laid_size (g := 7) (by kernel_rfl) h4
    omega
  · exact cell_of_shapedOpen_int (t := 3) (zero := #[.int .i64 0]) hsh (by decide +kernel) (by kernel_rfl) rfl (by kernel_rfl) (by kernel_rfl) Tryz.underlying3
  · exact Lib.tabIs_of_head (g := 1) (by kernel_rfl) (by kernel_rfl) Tryz.underlying164 Tryz.underlying143 (by kernel_rfl) (by kernel_rfl) h1
  · exact laid_iface (g := 4) (by kernel_rfl) (by kernel_rfl) Tryz.underlying100 h2
  · exact laid_iface (g := 5) (by kernel_rfl) (by kernel_rfl) Tryz.underlying100 h3
theorem own_knob : ownKnob Tryz.prog.godebug = none := by kernel_rfl
theorem laid_out : laidOutB Tryz.prog = true := by kernel_rfl
end Go.Proofs.YtfbmjonhohebiaaGreatDoor
end
section
set_option linter.unusedVariables false
set_option linter.unusedSimpArgs false
namespace Go.Proofs.YtfbmjonhohebiaaGreatDoor.cexp
open Go.RowKit Go.ChangeShapes Go.WideShapes Go.ChangeAt
theorem wf_b {x : Int} (h : (Lit.int .i64 x).wf = true) : -9223372036854775808 ≤ x ∧ x ≤ 9223372036854775807 := by
  unfold Lit.wf at h
  rw [Bool.and_eq_true, decide_eq_true_eq, decide_eq_true_eq] at h
  exact h
theorem aliveC : AliveC Globs := ⟨fun h hb => h.below hb, fun h => law21_alive _ h⟩
set_option maxRecDepth 100000 in
theorem lifted (os : Os) (started : os.Started) (H : Type) (enc : TypeId × Value → H) :
    ReturnsInHanded {} Tryz.checked os 4 .any (fun w args => (Rows.recurExpandsSpec.pre enc Tryz.prog Tryz.f4 [] false w args ∧ laidMetH Tryz.prog laidL w) ∧ sizedMet enc Tryz.prog Tryz.f4 (OpenSpec.ofChange Rows.recurExpandsSpec) false w args)
      (Rows.recurExpandsSpec.post enc Tryz.prog Tryz.f4 false true false false) := by
  refine returns_laid (C := Tryz.checked) (X := fun w _ => laidMetH Tryz.prog laidL w) (fun _ _ _ hh h => h.of_heap hh) own_knob started (by kernel_rfl) Tryz.func4
    (ChangeSpec.witness_shaped (enc := enc) (C := Tryz.checked) (os := os) (X := fun w _ => laidMetH Tryz.prog laidL w) false (World.laidAll Tryz.prog os laidL) #[.agg #[.int .i64 0, .int .i64 0, .int .i64 0, .int .i64 0, .slice none 0 0, .slice none 0 0, .slice none 0 0], .int .i64 0, .int .i64 0, .int .i64 0, .int .i64 0] 8 (World.laidAll_os _ _ _)
      (World.shaped_of_ZipB (by kernel_rfl) (by kernel_rfl)) (by kernel_rfl) (by kernel_rfl) (by kernel_rfl)
      (by rw [MakeChecks.laidMetH_plain _ _ _ (by kernel_rfl)]; exact laidMet_laidAll _ (by kernel_rfl) (by kernel_rfl))) ?_
  intro W base args ds gs before hval0 hW hsz0 hL hsh
  have hval : ∀ (j : Nat) t v, Tryz.f4.params[j]? = some t → args[j]? = some v → Value.okWide Tryz.prog W .any base t v := hval0
  have hW' := hW
  obtain ⟨p, q, hA0, hV, rfl, hfz, hnd⟩ := hW
  have hA : DataW.TrodAll enc Tryz.prog W 0 (fun _ => true) true Tryz.f4.params.toList args.toList ds p := hA0
  rw [Tryz.params4] at hA hval
  obtain ⟨v0, vs0, d0, ds0, p0, q0, hargs, rfl, rfl, h0, r0⟩ := trodAll_cons hA
  obtain ⟨v1, vs1, d1, ds1, p1, q1, rfl, rfl, rfl, h1, r1⟩ := trodAll_cons r0
  obtain ⟨v2, vs2, d2, ds2, p2, q2, rfl, rfl, rfl, h2, r2⟩ := trodAll_cons r1
  obtain ⟨v3, vs3, d3, ds3, p3, q3, rfl, rfl, rfl, h3, r3⟩ := trodAll_cons r2
  obtain ⟨v4, vs4, d4, ds4, p4, q4, rfl, rfl, rfl, h4, r4⟩ := trodAll_cons r3
  obtain ⟨rfl, rfl, rfl⟩ := trodAll_nil r4
  obtain rfl : args = #[v0, v1, v2, v3, v4] := by cases args; simp_all
  obtain ⟨rfl, rfl⟩ := trodVars_none hV
  have k0 := h0
  have lt0 : ∀ x ∈ p0, x.block < W.heap.size := by obtain ⟨m, hm⟩ := k0; exact DataW.trod_lt m _ _ _ hm
  obtain ⟨a0, a1, a2, a3, A4, A5, A6, c4, c5, c6, l4, l5, l6, hR⟩ := open_rule (hval 0 25 v0 rfl rfl) h0 (fun x hx => by simpa using List.all_eq_true.1 hsz0 x (DataW.weights_mem_each (j := 0) rfl rfl x hx))
  obtain rfl := hR.eq
  obtain ⟨x1, rfl, rfl, rfl, w1⟩ := open_int Tryz.underlying2 (hval 1 2 v1 rfl rfl) h1
  obtain ⟨x2, rfl, rfl, rfl, w2⟩ := open_int Tryz.underlying2 (hval 2 2 v2 rfl rfl) h2
  obtain ⟨x3, rfl, rfl, rfl, w3⟩ := open_int Tryz.underlying2 (hval 3 2 v3 rfl rfl) h3
  obtain ⟨x4, rfl, rfl, rfl, w4⟩ := open_int Tryz.underlying3 (hval 4 3 v4 rfl rfl) h4
  have b1 : -9223372036854775808 ≤ x1 ∧ x1 ≤ 9223372036854775807 := wf_b w1
  have b2 : -9223372036854775808 ≤ x2 ∧ x2 ≤ 9223372036854775807 := wf_b w2
  have b3 : -9223372036854775808 ≤ x3 ∧ x3 ≤ 9223372036854775807 := wf_b w3
  have b4 : -9223372036854775808 ≤ x4 ∧ x4 ≤ 9223372036854775807 := wf_b w4
  have hLs : Lists W A4 A5 A6 c4 c5 c6 l4 l5 l6 := ⟨hR.r4, hR.k4, hR.r5, hR.k5, hR.r6, hR.k6⟩
  have hlen : (l4.length + l5.length : Int) ≤ 9223372036854775807 := by have := hR.s4; have := hR.s5; omega
  clear hA0 hval0 hsz0
  refine (law_expands aliveC hLs hR.m4 hR.m5 hlen x1 x2 x3 x4 b1.1 b3.2 (globs_of hsh hL)).mono fun e W' ⟨he, bel⟩ => ?_
  subst he
  exact ⟨_, rfl, _, _, _, [], _, [], hW', trodAll_mk1 (shut_bool Tryz.underlying4 _), (trodAll_cons_mk (Below.trod laid_out (by kernel_rfl) (of_decide_eq_true (by kernel_rfl)) k0 bel lt0) (trodAll_cons_mk (shut_int Tryz.underlying2 w1) (trodAll_cons_mk (shut_int Tryz.underlying2 w2) (trodAll_cons_mk (shut_int Tryz.underlying2 w3) (trodAll_cons_mk (shut_int Tryz.underlying3 w4) trodAll_mk0))))), rfl, bel.frame _, fun h => by cases h⟩
theorem row_holds : Rows.RecurExpandsSaid :=
  OpenClaim.holds_of_wide 4 Tryz.f4 rfl rfl rfl rfl rfl rfl rfl ⟨rfl, rfl, rfl, rfl, rfl⟩ rfl rfl rfl rfl rfl (by kernel_rfl) Tryz.func4 (by kernel_rfl)
    (of_decide_eq_true (by kernel_rfl)) (by unfold Func.isWrapper; first | (rw [if_pos (by decide +kernel)]; kernel_rfl) | (rw [if_neg (by decide +kernel)]; exact ⟨rfl, rfl⟩))
    (fun os started H enc _ => lifted os started H enc)
end Go.Proofs.YtfbmjonhohebiaaGreatDoor.cexp
namespace Go.Proofs.YtfbmjonhohebiaaGreatDoor
open Go
theorem recurExpands_holds : Rows.RecurExpandsCardSaid :=
  Claim7.holds_tied_plain_at .later [] [.data, .data, .data, .data, .sentinel, .sentinel, .pinned] true (true, "b33394aeb83eeb3d9ebe71b8d15df1c6d715091045c1a0291b5a9f923bae1d65") true cexp.row_holds (fun _ h => by cases h) (by kernel_rfl) (fun _ h => by cases h) recurExpands_row_tie rfl ⟨rfl, rfl⟩ (by kernel_rfl) rfl
    (fun f fn hf hfn => by
      obtain rfl : f = 4 := Option.some.inj ((show Tryz.prog.funcNamed "posthorn/posthornlaw21.RecurExpands" = some 4 by kernel_rfl).symm.trans hf) |>.symm
      obtain rfl : fn = Tryz.f4 := (Option.some.inj (Tryz.func4.symm.trans hfn)).symm
      exact ⟨by kernel_rfl, fun j t ht => by
        rw [Tryz.params4] at ht
        have hm : t ∈ [25, 2, 2, 2, 3] := by simpa using Array.mem_of_getElem? ht
        have hall : ([25, 2, 2, 2, 3].all fun u => !Tryz.prog.wantsStandIn u) = true := by kernel_rfl
        exact (show Tryz.prog.wantsStandIn t = false by simpa using List.all_eq_true.1 hall t hm)⟩)
    (by kernel_rfl)
end Go.Proofs.YtfbmjonhohebiaaGreatDoor
end
