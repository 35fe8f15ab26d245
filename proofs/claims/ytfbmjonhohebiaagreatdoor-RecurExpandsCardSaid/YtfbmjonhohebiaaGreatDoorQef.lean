/- Texts merged: what the law needs, and no more. -/
import Derived.Test.YtfbmjonhohebiaaGreatDoorQee
section
set_option linter.unusedVariables false
set_option linter.unusedSimpArgs false
namespace Go.Proofs.YtfbmjonhohebiaaGreatDoor
open Go.RowKit Go.Proofs.YtfbmjonhohebiaaGreatDoorW.PrintWords Go.Proofs.YtfbmjonhohebiaaGreatDoorW.PrintLast Go.Proofs.YtfbmjonhohebiaaGreatDoorW.PrintMore PRecurExpands
theorem bcell {W w1 : World} (hb : Below W.heap.size W w1) : (∀ b o, b < W.heap.size → w1.cell? ⟨b, o, none⟩ = W.cell? ⟨b, o, none⟩) ∧ (∀ b o, b < W.heap.size → w1.frozen? ⟨b, o, none⟩ = W.frozen? ⟨b, o, none⟩) :=
  ⟨fun b o h => hb.cell (p := ⟨b, o, none⟩) h, fun b o h => hb.frozen (p := ⟨b, o, none⟩) h⟩
set_option maxHeartbeats 2000000 in
theorem recur_length (y : Int) (m : Nat) (h0 : 1970 ≤ y) (h1 : y ≤ 9999) (hm0 : 1 ≤ m) (hm1 : m ≤ 12) (w : World) :
    Calls Tryz.prog 86 #[.int .i64 y, .int .i64 m] w fun e w' => e = .returned (.int .i64 (Cal.mlen y m)) ∧ Below w.heap.size w w' := by
  have ml := mlen_le31 y m
  have ml0 := mlen_ge28 y m
  go_enter Tryz.func86, Tryz.ntmps86
  go_wp2
  go_loopw [5] (fun d wr => ∃ x : Int, 28 ≤ x ∧ x ≤ 31 ∧ Cal.mlen y m ≤ x ∧ d = .int .i64 x ∧ Below w.heap.size w wr) (fun d _ => (intOf d).toNat)
  case atStart => exact ⟨31, by omega, by omega, by omega, rfl, Below.refl _ _⟩
  case round =>
    obtain ⟨x, hx0, hx1, hx2, rfl, hb⟩ := hrel
    by_cases h28 : 28 < x
    · by_cases hlt : Cal.mlen y m < x
      · go_wp2_with (go_at_call 102; refine (when_Days_over y x m h0 h1 hm0 hm1 (by omega) (by omega) hlt _).mono ?_; rintro e w2 ⟨rfl, hb2⟩)
        go_roundw
        case rel => exact ⟨x - 1, by omega, by omega, by omega, rfl, hb.trans (hb2.mono hb.size)⟩
        case measure => simp [intOf]; omega
      · have hle : x ≤ Cal.mlen y m := by omega
        go_wp2_with (go_at_call 102; refine (when_Days_ok y x m h0 h1 hm0 hm1 (by omega) hle _).mono ?_; rintro e w2 ⟨rfl, hb2⟩)
        go_ret
        exact ⟨ret_int (by omega), hb.trans (hb2.mono hb.size)⟩
    · go_wp2
      go_ret
      exact ⟨ret_int (by omega), hb⟩
def fitS (sd sf sb : Int) (x : S59) : Bool := x.f0 == sd && (x.f1 == 0 || x.f1 == sf || x.f1 == sb)
set_option maxHeartbeats 2000000 in
theorem recur_fits (sd sf sb wd wo : Int) (w : World) :
    Calls Tryz.prog 88 #[.agg #[.int .i64 sd, .int .i64 sf, .int .i64 sb], .agg #[.int .i64 wd, .int .i64 wo]] w fun e w' => e = .returned (.bool (fitS sd sf sb ⟨wd, wo⟩)) ∧ Below w.heap.size w w' := by
  have fin : Below w.heap.size w ((w.alloc (.cells #[.int .i64 sd, .int .i64 sf, .int .i64 sb] 121)).alloc (.cells #[.int .i64 wd, .int .i64 wo] 59)) :=
    ((Below.refl _ _).alloc (Nat.le_refl _) _).alloc (by simp) _
  by_cases c1 : (wd == sd) = true
  · by_cases c2 : (wo == 0) = true
    · have hfin : fitS sd sf sb ⟨wd, wo⟩ = true := by simp [fitS, c1, c2]
      have HF := Lib.hid hfin
      clear hfin
      go_enter Tryz.func88, Tryz.ntmps88
      go_wp2
      go_ret
      exact ⟨ret_bool HF.out.symm, fin⟩
    · have c2' : (wo == 0) = false := by simpa using c2
      by_cases c3 : (wo == sf) = true
      · have hfin : fitS sd sf sb ⟨wd, wo⟩ = true := by simp [fitS, c1, c2', c3]
        have HF := Lib.hid hfin
        clear hfin c2
        go_enter Tryz.func88, Tryz.ntmps88
        go_wp2
        go_ret
        exact ⟨ret_bool HF.out.symm, fin⟩
      · have c3' : (wo == sf) = false := by simpa using c3
        have hfin : fitS sd sf sb ⟨wd, wo⟩ = (wo == sb) := by simp [fitS, c1, c2', c3']
        have HF := Lib.hid hfin
        clear hfin c2 c3
        go_enter Tryz.func88, Tryz.ntmps88
        go_wp2
        go_ret
        exact ⟨ret_bool HF.out.symm, fin⟩
  · have c1' : (wd == sd) = false := by simpa using c1
    have hfin : fitS sd sf sb ⟨wd, wo⟩ = false := by simp [fitS, c1']
    have HF := Lib.hid hfin
    clear hfin c1
    go_enter Tryz.func88, Tryz.ntmps88
    go_wp2
    go_ret
    exact ⟨ret_bool HF.out.symm, fin⟩
theorem fits_none (sd sf sb : Int) (l : List S59) (x : Int) (hx : (l.length : Int) ≤ x) (h : ∀ j : Int, 0 ≤ j → j < x → fitS sd sf sb (rd_T59 l j) = false) : l.any (fitS sd sf sb) = false := by
  rw [List.any_eq_false]
  intro a ha
  obtain ⟨i, hi, rfl⟩ := List.getElem_of_mem ha
  have := h i (by omega) (by omega)
  unfold rd_T59 at this
  simpa [hi] using this
theorem fits_some (sd sf sb : Int) (l : List S59) (x : Int) (h0 : 0 ≤ x) (hx : x < (l.length : Int)) (h : fitS sd sf sb (rd_T59 l x) = true) : l.any (fitS sd sf sb) = true := by
  rw [List.any_eq_true]
  have hi : x.toNat < l.length := by omega
  refine ⟨l[x.toNat], List.getElem_mem _, ?_⟩
  unfold rd_T59 at h
  simpa [hi] using h
set_option maxHeartbeats 2000000 in
theorem recur_IndexFunc (sd sf sb : Int) (A : Option Addr) (c : Nat) (l : List S59) (w : World) (hr : Kd.C k59 w A l.length l) (hc : l.length ≤ c) (hm : l.length ≤ 1000000000) :
    Calls Tryz.prog 111 #[.slice A l.length c, .func (.func 88) #[.agg #[.int .i64 sd, .int .i64 sf, .int .i64 sb]] #[]] w fun e w' =>
      (∃ r : Int, e = .returned (.int .i64 r) ∧ decide (0 ≤ r) = l.any (fitS sd sf sb)) ∧ Below w.heap.size w w' := by
  have HR := Aside0.mk hr
  clear hr
  go_enter Tryz.func111, Tryz.ntmps111
  go_wp2
  go_loopw [8] (fun i wr => ∃ x : Int, 0 ≤ x ∧ x ≤ l.length ∧ i = .int .i64 x ∧ Aside0 (∀ j : Int, 0 ≤ j → j < x → fitS sd sf sb (rd_T59 l j) = false) ∧ Below w.heap.size w wr) (fun i _ => l.length - (intOf i).toNat)
  case atStart => exact ⟨0, by omega, by omega, rfl, ⟨fun j h1 h2 => by omega⟩, Below.refl _ _⟩
  case round =>
    obtain ⟨x, hx0, hx1, rfl, hno, hb⟩ := hrel
    by_cases hlt : x < (l.length : Int)
    · obtain ⟨ad, e, hx_0, hx_1⟩ := at_T59 HR.out x hx0 hlt
      cases e
      replace hx_0 := (hb.cell (World.block_lt_of_cell? w _ hx_0)).trans hx_0
      replace hx_1 := (hb.cell (World.block_lt_of_cell? w _ hx_1)).trans hx_1
      have hw : wrap64 (x + 1) = x + 1 := by unfold wrap64; omega
      have HW := Lib.hid hw
      clear hw
      go_wp2_with (go_at_call 88; refine (recur_fits sd sf sb _ _ _).mono ?_; rintro e w2 ⟨rfl, hb2⟩)
      · have hfit : fitS sd sf sb ⟨(rd_T59 l x).f0, (rd_T59 l x).f1⟩ = true := by assumption
        go_ret
        exact ⟨⟨x, rfl, by rw [fits_some sd sf sb l x hx0 hlt hfit]; simp [hx0]⟩, hb.trans (hb2.mono hb.size)⟩
      · have hfit : fitS sd sf sb ⟨(rd_T59 l x).f0, (rd_T59 l x).f1⟩ = false := by assumption
        go_roundw
        case rel => exact ⟨x + 1, by omega, by omega, rfl, ⟨fun j h1 h2 => if e : j = x then by rw [e]; exact hfit else hno.out j h1 (by omega)⟩, hb.trans (hb2.mono hb.size)⟩
        case measure => simp [intOf]; omega
    · go_wp2
      go_ret
      exact ⟨⟨-1, rfl, by rw [fits_none sd sf sb l x (by omega) hno.out]; rfl⟩, hb⟩
set_option maxHeartbeats 2000000 in
theorem recur_ContainsFunc (sd sf sb : Int) (A : Option Addr) (c : Nat) (l : List S59) (w : World) (hr : Kd.C k59 w A l.length l) (hc : l.length ≤ c) (hm : l.length ≤ 1000000000) :
    Calls Tryz.prog 87 #[.slice A l.length c, .func (.func 88) #[.agg #[.int .i64 sd, .int .i64 sf, .int .i64 sb]] #[]] w fun e w' =>
      e = .returned (.bool (l.any (fitS sd sf sb))) ∧ Below w.heap.size w w' := by
  have HR := Aside0.mk hr
  clear hr
  go_enter Tryz.func87, Tryz.ntmps87
  go_wp2_with (go_at_call 111; refine (recur_IndexFunc sd sf sb A c l _ HR.out hc hm).mono ?_; rintro e w2 ⟨⟨r, rfl, hd⟩, hb2⟩; have HD := Lib.hid hd; clear hd)
  go_ret
  exact ⟨ret_bool HD.out, hb2⟩
end Go.Proofs.YtfbmjonhohebiaaGreatDoor
end
section
set_option linter.unusedVariables false
set_option linter.unusedSimpArgs false
namespace Go.Proofs.YtfbmjonhohebiaaGreatDoor
open Go.RowKit Go.Proofs.YtfbmjonhohebiaaGreatDoorW.PrintWords Go.Proofs.YtfbmjonhohebiaaGreatDoorW.PrintLast Go.Proofs.YtfbmjonhohebiaaGreatDoorW.PrintMore PRecurExpands
def hasI (l : List Int) (a : Int) : Bool := l.contains a
theorem contains_int (A : Option Addr) (c : Nat) (l : List Int) (a : Int) (w : World) (hr : Kd.C (Kd.int .i64) w A l.length l) (hc : l.length ≤ c) (hl : l.length ≤ 1000000000) :
    Calls Tryz.prog 57 #[.slice A l.length c, .int .i64 a] w fun e w' => e = .returned (.bool (hasI l a)) ∧ Below w.heap.size w w' := by
  obtain ⟨k, hk⟩ := (contains_int_ev l a hl).rounds
  exact (slices_Contains_int_int.calls k A c l a _ w hr hc hk).mono fun e w' h => ⟨h.1, h.2.below⟩
def mayS (l5 : List Int) (l6 : List S59) (n d wd first : Int) : Bool :=
  if l5 = [] ∧ l6 = [] then d == first
  else if l5 ≠ [] ∧ hasI l5 d = false ∧ hasI l5 (d - n - 1) = false then false
  else l6.isEmpty || l6.any (fitS wd ((d + 6) / 7) (-((n - d) / 7 + 1)))
set_option maxHeartbeats 4000000 in
theorem recur_may (a0 a1 a2 a3 : Int) (A4 A5 A6 : Option Addr) (c4 c5 c6 : Nat) (l4 l5 : List Int) (l6 : List S59) (y d wd first : Int) (m : Nat) (w : World)
    (hr5 : Kd.C (Kd.int .i64) w A5 l5.length l5) (hc5 : l5.length ≤ c5) (hr6 : Kd.C k59 w A6 l6.length l6) (hc6 : l6.length ≤ c6) (hl5 : l5.length ≤ 1000000000) (hl6 : l6.length ≤ 1000000000)
    (h0 : 1970 ≤ y) (h1 : y ≤ 9999) (hm0 : 1 ≤ m) (hm1 : m ≤ 12) (hd0 : 1 ≤ d) (hd1 : d ≤ Cal.mlen y m) :
    Calls Tryz.prog 59 #[.agg #[.int .i64 a0, .int .i64 a1, .int .i64 a2, .int .i64 a3, .slice A4 l4.length c4, .slice A5 l5.length c5, .slice A6 l6.length c6], .int .i64 y, .int .i64 m, .int .i64 d, .int .i64 wd, .int .i64 first] w fun e w' =>
      e = .returned (.bool (mayS l5 l6 (Cal.mlen y m) d wd first)) ∧ Below w.heap.size w w' := by
  have HR5 := Aside0.mk hr5
  have HR6 := Aside0.mk hr6
  clear hr5 hr6
  have B0 := Aside0.mk ((Below.refl w.heap.size w).alloc (Nat.le_refl _) (.cells #[.int .i64 a0, .int .i64 a1, .int .i64 a2, .int .i64 a3, .slice A4 l4.length c4, .slice A5 l5.length c5, .slice A6 l6.length c6] 25))
  have ml := mlen_le31 y m
  have ml0 := mlen_ge28 y m
  have lt : ∀ {α : Type} {l : List α}, l ≠ [] → 0 < l.length := fun h => List.length_pos_iff.mpr h
  have nz : ∀ {α : Type} {l : List α}, l ≠ [] → ((l.length : Int) == 0) = false := fun h => by have := List.length_pos_iff.mpr h; rw [beq_eq_false_iff_ne]; omega
  have emp : ∀ {α : Type} {l : List α}, l ≠ [] → l.isEmpty = false := fun {α l} h => by cases l with | nil => exact absurd rfl h | cons a b => rfl
  by_cases e5 : l5 = []
  · by_cases e6 : l6 = []
    · have hfin : mayS l5 l6 (Cal.mlen y m) d wd first = (d == first) := by unfold mayS; rw [if_pos ⟨e5, e6⟩]
      have HF := Lib.hid hfin
      clear hfin lt nz emp
      subst e5; subst e6
      go_enter Tryz.func59, Tryz.ntmps59
      go_wp2_with (first
      | (go_at_call 86; refine (recur_length y m h0 h1 hm0 hm1 _).mono ?_; rintro e w1 ⟨rfl, hb1⟩; obtain ⟨hc1, hf1⟩ := bcell hb1; have hz1 : w.heap.size < w1.heap.size := (by have := hb1.size; simp at this; omega); have HB := Aside0.mk (B0.out.trans (hb1.mono (by simp))); clear hb1)
      | (go_at_call 57; refine (contains_int A5 c5 l5 _ _ (Kd.C_below HR5.out HB.out) hc5 hl5).mono ?_; rintro e w2 ⟨rfl, hb2⟩; obtain ⟨hc2, hf2⟩ := bcell hb2; have hz2 : w.heap.size < w2.heap.size := (Nat.lt_of_lt_of_le (by assumption) hb2.size); have HB' := Aside0.mk (HB.out.trans (hb2.mono HB.out.size)); clear HB hb2; have HB := HB'; clear HB')
      | (go_at_call 87; refine (recur_ContainsFunc _ _ _ A6 c6 l6 _ (Kd.C_below HR6.out (by first | exact HB.out | exact HB.out.alloc HB.out.size _)) hc6 hl6).mono ?_; rintro e w4 ⟨rfl, hb4⟩; have HC := Aside0.mk hb4; clear hb4))
      go_ret
      exact ⟨ret_bool HF.out.symm, HB.out⟩
    · have hfin : mayS l5 l6 (Cal.mlen y m) d wd first = l6.any (fitS wd ((d + 6) / 7) (-((Cal.mlen y m - d) / 7 + 1))) := by unfold mayS; rw [if_neg (fun h => e6 h.2), if_neg (fun h => h.1 e5), emp e6, Bool.false_or]
      have HF := Lib.hid hfin
      have p6 := lt e6
      have z6 := nz e6
      clear hfin lt nz emp
      subst e5
      go_enter Tryz.func59, Tryz.ntmps59
      go_wp2_with (first
      | (go_at_call 86; refine (recur_length y m h0 h1 hm0 hm1 _).mono ?_; rintro e w1 ⟨rfl, hb1⟩; obtain ⟨hc1, hf1⟩ := bcell hb1; have hz1 : w.heap.size < w1.heap.size := (by have := hb1.size; simp at this; omega); have HB := Aside0.mk (B0.out.trans (hb1.mono (by simp))); clear hb1)
      | (go_at_call 57; refine (contains_int A5 c5 l5 _ _ (Kd.C_below HR5.out HB.out) hc5 hl5).mono ?_; rintro e w2 ⟨rfl, hb2⟩; obtain ⟨hc2, hf2⟩ := bcell hb2; have hz2 : w.heap.size < w2.heap.size := (Nat.lt_of_lt_of_le (by assumption) hb2.size); have HB' := Aside0.mk (HB.out.trans (hb2.mono HB.out.size)); clear HB hb2; have HB := HB'; clear HB')
      | (go_at_call 87; refine (recur_ContainsFunc _ _ _ A6 c6 l6 _ (Kd.C_below HR6.out (by first | exact HB.out | exact HB.out.alloc HB.out.size _)) hc6 hl6).mono ?_; rintro e w4 ⟨rfl, hb4⟩; have HC := Aside0.mk hb4; clear hb4))
      go_ret
      exact ⟨ret_bool HF.out.symm, (HB.out.alloc HB.out.size _).trans (HC.out.mono (by have := HB.out.size; simp; omega))⟩
  · have p5 := lt e5
    have z5 := nz e5
    have q5 : decide (0 < l5.length) = true := decide_eq_true p5
    by_cases k1 : hasI l5 d = true
    · by_cases e6 : l6 = []
      · have hfin : mayS l5 l6 (Cal.mlen y m) d wd first = true := by unfold mayS; rw [if_neg (fun h => e5 h.1), if_neg (fun h => by rw [k1] at h; exact absurd h.2.1 (by decide)), e6]; rfl
        have HF := Lib.hid hfin
        have K1 := k1
        clear hfin lt nz emp k1
        subst e6
        go_enter Tryz.func59, Tryz.ntmps59
        go_wp2_with (first
      | (go_at_call 86; refine (recur_length y m h0 h1 hm0 hm1 _).mono ?_; rintro e w1 ⟨rfl, hb1⟩; obtain ⟨hc1, hf1⟩ := bcell hb1; have hz1 : w.heap.size < w1.heap.size := (by have := hb1.size; simp at this; omega); have HB := Aside0.mk (B0.out.trans (hb1.mono (by simp))); clear hb1)
      | (go_at_call 57; refine (contains_int A5 c5 l5 _ _ (Kd.C_below HR5.out HB.out) hc5 hl5).mono ?_; rintro e w2 ⟨rfl, hb2⟩; obtain ⟨hc2, hf2⟩ := bcell hb2; have hz2 : w.heap.size < w2.heap.size := (Nat.lt_of_lt_of_le (by assumption) hb2.size); have HB' := Aside0.mk (HB.out.trans (hb2.mono HB.out.size)); clear HB hb2; have HB := HB'; clear HB')
      | (go_at_call 87; refine (recur_ContainsFunc _ _ _ A6 c6 l6 _ (Kd.C_below HR6.out (by first | exact HB.out | exact HB.out.alloc HB.out.size _)) hc6 hl6).mono ?_; rintro e w4 ⟨rfl, hb4⟩; have HC := Aside0.mk hb4; clear hb4))
        go_ret
        exact ⟨ret_bool HF.out.symm, HB.out⟩
      · have hfin : mayS l5 l6 (Cal.mlen y m) d wd first = l6.any (fitS wd ((d + 6) / 7) (-((Cal.mlen y m - d) / 7 + 1))) := by unfold mayS; rw [if_neg (fun h => e6 h.2), if_neg (fun h => by rw [k1] at h; exact absurd h.2.1 (by decide)), emp e6, Bool.false_or]
        have HF := Lib.hid hfin
        have p6 := lt e6
        have z6 := nz e6
        clear hfin lt nz emp
        go_enter Tryz.func59, Tryz.ntmps59
        go_wp2_with (first
      | (go_at_call 86; refine (recur_length y m h0 h1 hm0 hm1 _).mono ?_; rintro e w1 ⟨rfl, hb1⟩; obtain ⟨hc1, hf1⟩ := bcell hb1; have hz1 : w.heap.size < w1.heap.size := (by have := hb1.size; simp at this; omega); have HB := Aside0.mk (B0.out.trans (hb1.mono (by simp))); clear hb1)
      | (go_at_call 57; refine (contains_int A5 c5 l5 _ _ (Kd.C_below HR5.out HB.out) hc5 hl5).mono ?_; rintro e w2 ⟨rfl, hb2⟩; obtain ⟨hc2, hf2⟩ := bcell hb2; have hz2 : w.heap.size < w2.heap.size := (Nat.lt_of_lt_of_le (by assumption) hb2.size); have HB' := Aside0.mk (HB.out.trans (hb2.mono HB.out.size)); clear HB hb2; have HB := HB'; clear HB')
      | (go_at_call 87; refine (recur_ContainsFunc _ _ _ A6 c6 l6 _ (Kd.C_below HR6.out (by first | exact HB.out | exact HB.out.alloc HB.out.size _)) hc6 hl6).mono ?_; rintro e w4 ⟨rfl, hb4⟩; have HC := Aside0.mk hb4; clear hb4))
        go_ret
        exact ⟨ret_bool HF.out.symm, (HB.out.alloc HB.out.size _).trans (HC.out.mono (by have := HB.out.size; simp; omega))⟩
    · have k1' : hasI l5 d = false := by simpa using k1
      clear k1
      by_cases k2 : hasI l5 (d - Cal.mlen y m - 1) = true
      · by_cases e6 : l6 = []
        · have hfin : mayS l5 l6 (Cal.mlen y m) d wd first = true := by unfold mayS; rw [if_neg (fun h => e5 h.1), if_neg (fun h => by rw [k2] at h; exact absurd h.2.2 (by decide)), e6]; rfl
          have HF := Lib.hid hfin
          clear hfin lt nz emp
          subst e6
          go_enter Tryz.func59, Tryz.ntmps59
          go_wp2_with (first
      | (go_at_call 86; refine (recur_length y m h0 h1 hm0 hm1 _).mono ?_; rintro e w1 ⟨rfl, hb1⟩; obtain ⟨hc1, hf1⟩ := bcell hb1; have hz1 : w.heap.size < w1.heap.size := (by have := hb1.size; simp at this; omega); have HB := Aside0.mk (B0.out.trans (hb1.mono (by simp))); clear hb1)
      | (go_at_call 57; refine (contains_int A5 c5 l5 _ _ (Kd.C_below HR5.out HB.out) hc5 hl5).mono ?_; rintro e w2 ⟨rfl, hb2⟩; obtain ⟨hc2, hf2⟩ := bcell hb2; have hz2 : w.heap.size < w2.heap.size := (Nat.lt_of_lt_of_le (by assumption) hb2.size); have HB' := Aside0.mk (HB.out.trans (hb2.mono HB.out.size)); clear HB hb2; have HB := HB'; clear HB')
      | (go_at_call 87; refine (recur_ContainsFunc _ _ _ A6 c6 l6 _ (Kd.C_below HR6.out (by first | exact HB.out | exact HB.out.alloc HB.out.size _)) hc6 hl6).mono ?_; rintro e w4 ⟨rfl, hb4⟩; have HC := Aside0.mk hb4; clear hb4))
          go_ret
          exact ⟨ret_bool HF.out.symm, HB.out⟩
        · have hfin : mayS l5 l6 (Cal.mlen y m) d wd first = l6.any (fitS wd ((d + 6) / 7) (-((Cal.mlen y m - d) / 7 + 1))) := by unfold mayS; rw [if_neg (fun h => e6 h.2), if_neg (fun h => by rw [k2] at h; exact absurd h.2.2 (by decide)), emp e6, Bool.false_or]
          have HF := Lib.hid hfin
          have p6 := lt e6
          have z6 := nz e6
          clear hfin lt nz emp
          go_enter Tryz.func59, Tryz.ntmps59
          go_wp2_with (first
      | (go_at_call 86; refine (recur_length y m h0 h1 hm0 hm1 _).mono ?_; rintro e w1 ⟨rfl, hb1⟩; obtain ⟨hc1, hf1⟩ := bcell hb1; have hz1 : w.heap.size < w1.heap.size := (by have := hb1.size; simp at this; omega); have HB := Aside0.mk (B0.out.trans (hb1.mono (by simp))); clear hb1)
      | (go_at_call 57; refine (contains_int A5 c5 l5 _ _ (Kd.C_below HR5.out HB.out) hc5 hl5).mono ?_; rintro e w2 ⟨rfl, hb2⟩; obtain ⟨hc2, hf2⟩ := bcell hb2; have hz2 : w.heap.size < w2.heap.size := (Nat.lt_of_lt_of_le (by assumption) hb2.size); have HB' := Aside0.mk (HB.out.trans (hb2.mono HB.out.size)); clear HB hb2; have HB := HB'; clear HB')
      | (go_at_call 87; refine (recur_ContainsFunc _ _ _ A6 c6 l6 _ (Kd.C_below HR6.out (by first | exact HB.out | exact HB.out.alloc HB.out.size _)) hc6 hl6).mono ?_; rintro e w4 ⟨rfl, hb4⟩; have HC := Aside0.mk hb4; clear hb4))
          go_ret
          exact ⟨ret_bool HF.out.symm, (HB.out.alloc HB.out.size _).trans (HC.out.mono (by have := HB.out.size; simp; omega))⟩
      · have k2' : hasI l5 (d - Cal.mlen y m - 1) = false := by simpa using k2
        have hfin : mayS l5 l6 (Cal.mlen y m) d wd first = false := by unfold mayS; rw [if_neg (fun h => e5 h.1), if_pos ⟨e5, k1', k2'⟩]
        have HF := Lib.hid hfin
        clear hfin lt nz emp k2
        go_enter Tryz.func59, Tryz.ntmps59
        go_wp2_with (first
      | (go_at_call 86; refine (recur_length y m h0 h1 hm0 hm1 _).mono ?_; rintro e w1 ⟨rfl, hb1⟩; obtain ⟨hc1, hf1⟩ := bcell hb1; have hz1 : w.heap.size < w1.heap.size := (by have := hb1.size; simp at this; omega); have HB := Aside0.mk (B0.out.trans (hb1.mono (by simp))); clear hb1)
      | (go_at_call 57; refine (contains_int A5 c5 l5 _ _ (Kd.C_below HR5.out HB.out) hc5 hl5).mono ?_; rintro e w2 ⟨rfl, hb2⟩; obtain ⟨hc2, hf2⟩ := bcell hb2; have hz2 : w.heap.size < w2.heap.size := (Nat.lt_of_lt_of_le (by assumption) hb2.size); have HB' := Aside0.mk (HB.out.trans (hb2.mono HB.out.size)); clear HB hb2; have HB := HB'; clear HB')
      | (go_at_call 87; refine (recur_ContainsFunc _ _ _ A6 c6 l6 _ (Kd.C_below HR6.out (by first | exact HB.out | exact HB.out.alloc HB.out.size _)) hc6 hl6).mono ?_; rintro e w4 ⟨rfl, hb4⟩; have HC := Aside0.mk hb4; clear hb4))
        go_ret
        exact ⟨ret_bool HF.out.symm, HB.out⟩
end Go.Proofs.YtfbmjonhohebiaaGreatDoor
end
