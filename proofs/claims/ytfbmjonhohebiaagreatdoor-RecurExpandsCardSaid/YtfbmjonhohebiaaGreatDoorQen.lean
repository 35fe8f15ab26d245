/- Texts merged: what the law needs, and no more. -/
import Derived.Test.YtfbmjonhohebiaaGreatDoorQem
import Derived.StillTactics
import Derived.Laws.Pointers
import Derived.Laws.ResultCell
section
set_option linter.unusedVariables false
set_option linter.unusedSimpArgs false
namespace Go.Proofs.YtfbmjonhohebiaaGreatDoor
open Go.RowKit Go.Proofs.YtfbmjonhohebiaaGreatDoorW.PrintWords Go.Proofs.YtfbmjonhohebiaaGreatDoorW.PrintLast Go.Proofs.YtfbmjonhohebiaaGreatDoorW.PrintMore PRecurExpands
theorem ref_year (y : Int) (h : 0 ≤ y) : posthornref12_Year.f y = some (Cal.ylen y) := by
  unfold posthornref12_Year.f Cal.ylen Cal.leap
  rw [Int.tmod_eq_emod_of_nonneg h, Int.tmod_eq_emod_of_nonneg h, Int.tmod_eq_emod_of_nonneg h]
  by_cases h4 : y % 400 = 0
  · rw [if_pos h4]; simp [h4]
  · rw [if_neg h4]
    by_cases h1 : y % 4 = 0
    · rw [if_pos h1]
      by_cases h2 : y % 100 = 0
      · rw [if_pos h2]; simp [h4, h1, h2]
      · rw [if_neg h2]; simp [h4, h1, h2]
    · rw [if_neg h1]; simp [h4, h1]
theorem ref_month_ev (y m : Int) (h : 0 ≤ y) : Ev (fun k => posthornref12_Month.f k y m) (Cal.mlen y m) := by
  have yes : m = 4 ∨ m = 6 ∨ m = 9 ∨ m = 11 → Cal.mlen y m = 30 := fun hm => by unfold Cal.mlen; rw [if_neg (by omega), if_pos hm]
  have J : ∀ b : Bool, (b = true ↔ (m = 4 ∨ m = 6 ∨ m = 9 ∨ m = 11)) → Ev (fun k => posthornref12_Month.j0 k y m b) (Cal.mlen y m) := by
    intro b hb
    refine Ev.succ ?_
    simp only [posthornref12_Month.j0]
    refine Ev.ite (fun hx => by rw [yes (hb.mp hx)]; exact Ev.now _) (fun hx => Ev.ite (fun e => ?_) (fun e => ?_))
    · simp only [ref_year y h, Option.bind_some]
      subst e
      have : wrap64 (Cal.ylen y - 337) = Cal.mlen y 2 := by
        unfold Cal.ylen Cal.mlen
        rw [if_pos rfl]
        split <;> (rw [wrap64_in (by omega) (by omega)]; rfl)
      rw [this]; exact Ev.now _
    · have : Cal.mlen y m = 31 := by unfold Cal.mlen; rw [if_neg e, if_neg (fun hc => hx (hb.mpr hc))]
      rw [this]; exact Ev.now _
  unfold posthornref12_Month.f
  refine Ev.ite (fun e => J _ ?_) (fun n4 => Ev.ite (fun e => J _ ?_) (fun n6 => Ev.ite (fun e => J _ ?_) (fun n9 => J _ ?_)))
  · simp [e]
  · simp [e]
  · simp [e]
  · simp [n4, n6, n9]
theorem ref_civil_ev (n : Int) (h0 : 0 ≤ n) (h1 : n ≤ 2932896) : Ev (fun k => posthornref12_Civil.f k n) ((civ n).1, (civ n).2.1, (civ n).2.2, 0) := by
  have hc := civ_spec h0 h1
  generalize (civ n).1 = Y, (civ n).2.1 = M, (civ n).2.2 = D at hc ⊢
  obtain ⟨y0, y1, m0, m1, d0, d1, eq⟩ := hc
  have cb := Cal.cum_bd Y M m0 (by omega)
  have yb : ∀ y, Cal.ylen y ≤ 366 ∧ 365 ≤ Cal.ylen y := fun y => by have := Cal.ylen_bd y; omega
  have b70 := Cal.bef_1970
  have bmx := Cal.bef_10000
  have ml := Cal.mlen_bd Y M
  have bY := Cal.bef_mono (a := 1970) (b := Y) (by omega)
  have c13 := Cal.cum_13 Y
  have cs := Cal.cum_succ Y M m0 m1
  have cm := Cal.cum_mono (y := Y) (a := M + 1) (b := 13) (by omega) (by omega) (by omega)

  have months : ∀ (d : Nat) (m : Int), M - m = d → 1 ≤ m → Ev (fun k => posthornref12_Civil.l1 k (n - Cal.bef Y - Cal.cum Y m) Y m) (Y, M, D, 0) := by
    intro d
    induction d with
    | zero =>
      intro m hd hm
      obtain rfl : m = M := by omega
      refine Ev.succ ?_
      simp only [posthornref12_Civil.l1]
      refine Ev.bind (ref_month_ev Y m (by omega)) (Ev.neg (by omega) ?_)
      rw [wrap64_in (by omega) (by omega), show n - Cal.bef Y - Cal.cum Y m + 1 = D by omega]
      exact Ev.now _
    | succ d ih =>
      intro m hd hm
      have hs := Cal.cum_succ Y m hm (by omega)
      have hmo := Cal.cum_mono (y := Y) (a := m + 1) (b := M) (by omega) (by omega) (by omega)
      have hb0 := Cal.cum_bd Y m hm (by omega)
      have hml := Cal.mlen_bd Y m
      refine Ev.succ ?_
      simp only [posthornref12_Civil.l1]
      refine Ev.bind (ref_month_ev Y m (by omega)) (Ev.pos (by omega) (Ev.bind (ref_month_ev Y m (by omega)) ?_))
      rw [wrap64_in (x := n - Cal.bef Y - Cal.cum Y m - Cal.mlen Y m) (by omega) (by omega), wrap64_in (x := m + 1) (by omega) (by omega), show n - Cal.bef Y - Cal.cum Y m - Cal.mlen Y m = n - Cal.bef Y - Cal.cum Y (m + 1) by omega]
      exact ih (m + 1) (by omega) (by omega)
  have years : ∀ (d : Nat) (y : Int), Y - y = d → 1970 ≤ y → Ev (fun k => posthornref12_Civil.l0 k (n - Cal.bef y) y 1) (Y, M, D, 0) := by
    intro d
    induction d with
    | zero =>
      intro y hd hy
      obtain rfl : y = Y := by omega
      refine Ev.succ ?_
      simp only [posthornref12_Civil.l0, ref_year y (by omega), Option.bind_some]
      refine Ev.neg (by omega) ?_
      have := months (M - 1).toNat 1 (by omega) (by omega)
      rw [Cal.cum_one] at this
      simpa using this
    | succ d ih =>
      intro y hd hy
      have hs := Cal.bef_succ y
      have hmo := Cal.bef_mono (a := y + 1) (b := Y) (by omega)
      have hb := yb y
      have hbm := Cal.bef_mono (a := 1970) (b := y) (by omega)
      refine Ev.succ ?_
      simp only [posthornref12_Civil.l0, ref_year y (by omega), Option.bind_some]
      refine Ev.pos (by omega) ?_
      rw [wrap64_in (x := n - Cal.bef y - Cal.ylen y) (by omega) (by omega), wrap64_in (x := y + 1) (by omega) (by omega), show n - Cal.bef y - Cal.ylen y = n - Cal.bef (y + 1) by omega]
      exact ih (y + 1) (by omega) (by omega)
  unfold posthornref12_Civil.f
  refine Ev.neg (by omega) ?_
  rw [decide_eq_false (by omega)]
  refine Ev.succ ?_
  simp only [posthornref12_Civil.j0]
  refine Ev.neg (by decide) ?_
  have := years (Y - 1970).toNat 1970 (by omega) (by omega)
  rw [b70] at this
  simpa using this
theorem ref_weekday_ev (n : Int) (h0 : 0 ≤ n) (h1 : n ≤ 2932896) : Ev (fun k => posthornref20_Weekday.f k n) ((n + 3) % 7, 0) := by
  unfold posthornref20_Weekday.f
  refine Ev.neg (by omega) ?_
  rw [decide_eq_false (by omega)]
  refine Ev.succ ?_
  simp only [posthornref20_Weekday.j0]
  rw [Int.tmod_eq_emod_of_nonneg h0]
  refine Ev.neg (by decide) (Ev.ite (fun h => ?_) (fun h => ?_))
  · rw [wrap64_in (by omega) (by omega), show n % 7 + 3 = (n + 3) % 7 by omega]; exact Ev.now _
  · rw [wrap64_in (by omega) (by omega), show n % 7 - 4 = (n + 3) % 7 by omega]; exact Ev.now _
theorem ref_has_ev (l : List Int) (a : Int) (hl : l.length ≤ 1000000000) : Ev (fun k => posthornref21_has.f k l a) (hasI l a) := by
  refine Exists.elim (ev_exists (g := fun i k => posthornref21_has.l0 k l a i) (n := l.length) (P := fun i => l.getD i 0 = a) ?_ ?_ ?_) (fun b hbb => ?_)
  rotate_left 3
  · obtain ⟨h, hb⟩ := hbb
    have : hasI l a = b := by
      rw [Bool.eq_iff_iff, hb]
      unfold hasI
      rw [List.contains_iff_mem, List.mem_iff_getElem]
      exact ⟨fun ⟨i, hi, e⟩ => ⟨i, hi, by simpa [hi] using e⟩, fun ⟨i, hi, e⟩ => ⟨i, hi, by simpa [hi] using e⟩⟩
    rw [this]; exact h
  · exact Ev.step (f := fun _ => some false) (fun k => by simp only [posthornref21_has.l0]; rw [if_neg (by omega)]) (Ev.now _)
  · intro i hi hp
    exact Ev.step (f := fun _ => some true) (fun k => by simp only [posthornref21_has.l0]; rw [if_pos (by omega), if_pos (by omega), rd_nat, if_pos hp]) (Ev.now _)
  · intro i hi hp r hr
    exact Ev.step (fun k => by simp only [posthornref21_has.l0]; rw [if_pos (by omega), if_pos (by omega), rd_nat, if_neg hp, wrap64_in (by omega) (by omega)]) hr
theorem ref_on_ev (a0 a1 a2 a3 : Int) (l4 l5 : List Int) (l : List S59) (wd : Int) (hl : l.length ≤ 1000000000) : Ev (fun k => posthornref21_on.f k a0 a1 a2 a3 l4 l5 (l.map to60) wd) (l.any fun x => x.f0 == wd) := by
  refine Exists.elim (ev_exists (g := fun i k => posthornref21_on.l0 k wd i a0 a1 a2 a3 l4 l5 (l.map to60)) (n := l.length) (P := fun i => (l.getD i z59).f0 = wd) ?_ ?_ ?_) (fun b hbb => ?_)
  rotate_left 3
  · obtain ⟨h, hb⟩ := hbb
    have : (l.any fun x => x.f0 == wd) = b := by
      rw [Bool.eq_iff_iff, hb, List.any_eq_true]
      exact ⟨fun ⟨x, hx, e⟩ => by obtain ⟨i, hi, rfl⟩ := List.mem_iff_getElem.mp hx; exact ⟨i, hi, by simpa [hi] using e⟩, fun ⟨i, hi, e⟩ => ⟨l[i], List.getElem_mem hi, by simpa [hi] using e⟩⟩
    rw [this]; exact h
  · exact Ev.step (f := fun _ => some false) (fun k => by simp only [posthornref21_on.l0]; rw [if_neg (by simp)]) (Ev.now _)
  · intro i hi hp
    exact Ev.step (f := fun _ => some true) (fun k => by simp only [posthornref21_on.l0]; rw [if_pos (by simp; omega), if_pos (by omega), rd60_f0, if_pos hp]) (Ev.now _)
  · intro i hi hp r hr
    exact Ev.step (fun k => by simp only [posthornref21_on.l0]; rw [if_pos (by simp; omega), if_pos (by omega), rd60_f0, if_neg hp, wrap64_in (by omega) (by omega)]) hr
theorem ref_nth_ev (d n o : Int) (hd0 : 1 ≤ d) (hd1 : d ≤ n) (hn : n ≤ 31) (ho0 : -5 ≤ o) (ho1 : o ≤ 5) : Ev (fun k => posthornref21_nth.f k d n o) (o == 0 || o == (d + 6) / 7 || o == -((n - d) / 7 + 1)) := by
  have L0 : ∀ (t : Nat) (c x : Int), (x + 6) / 7 = t → -6 ≤ x → x ≤ 31 → 0 ≤ c → c + t ≤ 100 → Ev (fun k => posthornref21_nth.l0 k o c x) (c + (x + 6) / 7 == o) := by
    intro t
    induction t with
    | zero =>
      intro c x ht h1 h2 h3 h4
      refine Ev.succ ?_
      simp only [posthornref21_nth.l0]
      refine Ev.neg (by omega) ?_
      rw [show c + (x + 6) / 7 = c by omega]; exact Ev.now _
    | succ t ih =>
      intro c x ht h1 h2 h3 h4
      refine Ev.succ ?_
      simp only [posthornref21_nth.l0]
      refine Ev.pos (by omega) ?_
      rw [wrap64_in (by omega) (by omega), wrap64_in (by omega) (by omega)]
      have := ih (c + 1) (x - 7) (by omega) (by omega) (by omega) (by omega) (by omega)
      rwa [show c + 1 + (x - 7 + 6) / 7 = c + (x + 6) / 7 by omega] at this
  have L1 : ∀ (t : Nat) (c x : Int), (n - x + 7) / 7 = t → x ≤ n + 7 → 1 ≤ x → 0 ≤ c → c + t ≤ 100 → Ev (fun k => posthornref21_nth.l1 k n o c x) (c + (n - x + 7) / 7 == -o) := by
    intro t
    induction t with
    | zero =>
      intro c x ht h1 h2 h3 h4
      refine Ev.succ ?_
      simp only [posthornref21_nth.l1]
      refine Ev.neg (by omega) ?_
      rw [wrap64_in (by omega) (by omega), show c + (n - x + 7) / 7 = c by omega]; exact Ev.now _
    | succ t ih =>
      intro c x ht h1 h2 h3 h4
      refine Ev.succ ?_
      simp only [posthornref21_nth.l1]
      refine Ev.pos (by omega) ?_
      rw [wrap64_in (by omega) (by omega), wrap64_in (by omega) (by omega)]
      have := ih (c + 1) (x + 7) (by omega) (by omega) (by omega) (by omega) (by omega)
      rwa [show c + 1 + (n - (x + 7) + 7) / 7 = c + (n - x + 7) / 7 by omega] at this
  unfold posthornref21_nth.f
  refine Ev.ite (fun e => by subst e; exact Ev.now _) (fun e => Ev.ite (fun g => ?_) (fun g => ?_))
  · have h := L0 ((d + 6) / 7).toNat 0 d (by omega) (by omega) (by omega) (by omega) (by omega)
    have : (o == 0 || o == (d + 6) / 7 || o == -((n - d) / 7 + 1)) = (0 + (d + 6) / 7 == o) := by
      rw [Bool.eq_iff_iff]; simp only [Bool.or_eq_true, beq_iff_eq]; omega
    rw [this]; exact h
  · have h := L1 ((n - d + 7) / 7).toNat 0 d (by omega) (by omega) (by omega) (by omega) (by omega)
    have : (o == 0 || o == (d + 6) / 7 || o == -((n - d) / 7 + 1)) = (0 + (n - d + 7) / 7 == -o) := by
      rw [Bool.eq_iff_iff]; simp only [Bool.or_eq_true, beq_iff_eq]; omega
    rw [this]; exact h
theorem ref_may_ev (a0 a1 a2 a3 : Int) (l4 l5 : List Int) (l : List S59) (y m d wd first : Int) (hl5 : l5.length ≤ 1000000000) (hl : l.length ≤ 1000000000) (hy : 0 ≤ y) (hd0 : 1 ≤ d) (hd1 : d ≤ Cal.mlen y m)
    (hw : ∀ x ∈ l, -5 ≤ x.f1 ∧ x.f1 ≤ 5) : Ev (fun k => posthornref21_month.f k a0 a1 a2 a3 l4 l5 (l.map to60) y m d wd first) (mayS l5 l (Cal.mlen y m) d wd first) := by
  have mb := Cal.mlen_bd y m
  generalize hn : Cal.mlen y m = n at *
  have hloop : Ev (fun k => posthornref21_month.l0 k d wd n 0 a0 a1 a2 a3 l4 l5 (l.map to60)) (l.isEmpty || l.any (fitS wd ((d + 6) / 7) (-((n - d) / 7 + 1)))) := by
    by_cases he : l = []
    · subst he
      exact Ev.step (f := fun _ => some true) (fun k => by simp only [posthornref21_month.l0]; rw [if_neg (by simp)]; rfl) (Ev.now _)
    · have hl0 : 0 < l.length := List.length_pos_iff.mpr he
      have hnth : ∀ i : Nat, i < l.length → Ev (fun k => posthornref21_nth.f k d n (l.getD i z59).f1) ((l.getD i z59).f1 == 0 || (l.getD i z59).f1 == (d + 6) / 7 || (l.getD i z59).f1 == -((n - d) / 7 + 1)) := by
        intro i hi
        have hm : l.getD i z59 ∈ l := by simp [hi]
        exact ref_nth_ev d n _ hd0 hd1 mb.2 (hw _ hm).1 (hw _ hm).2
      refine Exists.elim (ev_exists (g := fun i k => posthornref21_month.l0 k d wd n i a0 a1 a2 a3 l4 l5 (l.map to60)) (n := l.length) (P := fun i => fitS wd ((d + 6) / 7) (-((n - d) / 7 + 1)) (l.getD i z59) = true) ?_ ?_ ?_) (fun b hbb => ?_)
      rotate_left 3
      · obtain ⟨h, hb⟩ := hbb
        have : (l.isEmpty || l.any (fitS wd ((d + 6) / 7) (-((n - d) / 7 + 1)))) = b := by
          rw [show l.isEmpty = false from by cases l with | nil => exact absurd rfl he | cons a b => rfl, Bool.false_or, Bool.eq_iff_iff, hb, List.any_eq_true]
          exact ⟨fun ⟨x, hx, e⟩ => by obtain ⟨i, hi, rfl⟩ := List.mem_iff_getElem.mp hx; exact ⟨i, hi, by simpa [hi] using e⟩, fun ⟨i, hi, e⟩ => ⟨l[i], List.getElem_mem hi, by simpa [hi] using e⟩⟩
        rw [this]; exact h
      · exact Ev.step (f := fun _ => some false) (fun k => by simp only [posthornref21_month.l0]; rw [if_neg (by simp)]; simp; omega) (Ev.now _)
      · intro i hi hp
        unfold fitS at hp
        simp only [Bool.and_eq_true, beq_iff_eq] at hp
        refine Ev.succ ?_
        simp only [posthornref21_month.l0, rd60_f0, rd60_f1]
        refine Ev.pos (by simp; omega) (Ev.pos (by omega) (Ev.pos hp.1 ?_))
        have h := hnth i hi
        rw [hp.2] at h
        exact Ev.bind h (Ev.pos rfl (Ev.now _))
      · intro i hi hp r hr
        unfold fitS at hp
        refine Ev.succ ?_
        simp only [posthornref21_month.l0, rd60_f0, rd60_f1]
        refine Ev.pos (by simp; omega) (Ev.pos (by omega) (Ev.ite (fun e => ?_) (fun e => ?_)))
        · have h := hnth i hi
          rw [show ((l.getD i z59).f1 == 0 || (l.getD i z59).f1 == (d + 6) / 7 || (l.getD i z59).f1 == -((n - d) / 7 + 1)) = false from Bool.eq_false_iff.mpr (fun hq => hp (by rw [beq_iff_eq.mpr e, hq]; rfl))] at h
          refine Ev.bind h (Ev.neg (by decide) ?_)
          rw [wrap64_in (by omega) (by omega)]; exact hr
        · rw [wrap64_in (by omega) (by omega)]; exact hr
  have J1 : ∀ b : Bool, Ev (fun k => posthornref21_month.j1 k d wd n b a0 a1 a2 a3 l4 l5 (l.map to60)) (if b = true then false else (l.isEmpty || l.any (fitS wd ((d + 6) / 7) (-((n - d) / 7 + 1))))) := by
    intro b
    refine Ev.succ ?_
    simp only [posthornref21_month.j1]
    cases b with
    | true => exact Ev.pos rfl (Ev.now _)
    | false => exact Ev.neg (by decide) hloop
  have len5 : ((l5.length : Int) > 0) ↔ l5 ≠ [] := by
    cases l5 with
    | nil => simp
    | cons a b => simp
  have J0 : ∀ b : Bool, (b = true ↔ (l5 = [] ∧ l = [])) → Ev (fun k => posthornref21_month.j0 k d wd first n b a0 a1 a2 a3 l4 l5 (l.map to60)) (mayS l5 l n d wd first) := by
    intro b hb
    refine Ev.succ ?_
    simp only [posthornref21_month.j0]
    unfold mayS
    refine Ev.ite (fun h => by rw [if_pos (hb.mp h)]; exact Ev.now _) (fun h => ?_)
    rw [if_neg (fun hc => h (hb.mpr hc))]
    refine Ev.ite (fun h5 => ?_) (fun h5 => ?_)
    · have h5' := len5.mp h5
      refine Ev.bind (ref_has_ev l5 d hl5) (Ev.ite (fun r => ?_) (fun r => ?_))
      · rw [if_neg (fun hc => by rw [r] at hc; exact absurd hc.2.1 (by decide))]
        exact J1 false
      · rw [wrap64_in (x := d - 1) (by omega) (by omega), wrap64_in (x := d - 1 - n) (by omega) (by omega), show d - 1 - n = d - n - 1 by omega]
        refine Ev.bind (ref_has_ev l5 (d - n - 1) hl5) ?_
        have r' : hasI l5 d = false := by simpa using r
        cases hh : hasI l5 (d - n - 1) with
        | true => rw [if_neg (fun hc => absurd hc.2.2 (by decide))]; exact J1 false
        | false => rw [if_pos ⟨h5', r', rfl⟩]; exact J1 true
    · rw [if_neg (fun hc => h5 (len5.mpr hc.1))]
      exact J1 false
  unfold posthornref21_month.f
  have hm := ref_month_ev y m hy
  rw [hn] at hm
  refine Ev.bind hm (Ev.ite (fun e => J0 _ ?_) (fun e => J0 _ ?_))
  · have : l5 = [] := by
      cases l5 with
      | nil => rfl
      | cons a b => simp at e; omega
    rw [beq_iff_eq]
    simp [this]
  · have : l5 ≠ [] := by
      rintro rfl
      exact e rfl
    simp [this]
end Go.Proofs.YtfbmjonhohebiaaGreatDoor
end
section
set_option linter.unusedVariables false
set_option linter.unusedSimpArgs false
namespace Go.Proofs.YtfbmjonhohebiaaGreatDoor
open Go.RowKit Go.Proofs.YtfbmjonhohebiaaGreatDoorW.PrintWords Go.Proofs.YtfbmjonhohebiaaGreatDoorW.PrintLast Go.Proofs.YtfbmjonhohebiaaGreatDoorW.PrintMore PRecurExpands
theorem weekP_mem {l : List S59} {fine : Bool} (h : WeekP l fine) : ∀ x ∈ l, -5 ≤ x.f1 ∧ x.f1 ≤ 5 ∧ (fine = false → x.f1 = 0) := by
  intro x hx
  obtain ⟨i, hi, rfl⟩ := List.mem_iff_getElem.mp hx
  obtain ⟨_, _, h3, h4, h5, _⟩ := h i hi
  have e : l.getD i z59 = l[i] := by simp [hi]
  rw [e] at h3 h4 h5
  exact ⟨h3, h4, h5⟩
theorem onS_plain (l : List S59) (wd : Int) (h : ∀ x ∈ l, x.f1 = 0) : onS l wd = (l.isEmpty || l.any fun x => x.f0 == wd) := by
  unfold onS
  congr 1
  rw [Bool.eq_iff_iff, List.any_eq_true, List.any_eq_true]
  constructor
  · rintro ⟨x, hx, e⟩
    simp only [Bool.and_eq_true, beq_iff_eq] at e
    exact ⟨x, hx, by rw [e.1]; exact beq_self_eq_true _⟩
  · rintro ⟨x, hx, e⟩
    simp only [beq_iff_eq] at e
    exact ⟨x, hx, by rw [e, h x hx]; simp⟩
theorem ref_matches_ev (a0 a1 a2 a3 : Int) (l4 l5 : List Int) (l6 : List S59) (hrt : RightP a0 a1 a2 a3 l4 l5 l6) (first day : Int) (h4 : l4.length ≤ 1000000000) (h5 : l5.length ≤ 1000000000) (h6 : l6.length ≤ 1000000000)
    (hf0 : 0 ≤ first) (hf1 : first ≤ 2932896) (hd0 : 0 ≤ day) (hd1 : day ≤ 2932896) : Ev (fun k => posthornref21_Matches.f k a0 a1 a2 a3 l4 l5 (l6.map to60) first day) (matchV a0 a1 l4 l5 l6 first day) := by
  obtain ⟨f0, f1, i0, i1, -, -, -, -, -, dn, hw⟩ := hrt
  have hmem := weekP_mem hw
  have hcf := civ_spec hf0 hf1
  have hcd := civ_spec hd0 hd1
  unfold matchV posthornref21_Matches.f
  by_cases hlt : day < first
  · unfold matchS
    rw [if_pos hlt]
    exact Ev.pos hlt (Ev.now _)
  refine Ev.neg hlt ?_
  refine Ev.bind (ref_civil_ev day hd0 hd1) (Ev.bind (ref_civil_ev first hf0 hf1) (Ev.bind (ref_weekday_ev day hd0 hd1) (Ev.bind (ref_weekday_ev first hf0 hf1) ?_)))
  have hmono := hcf.mono hcd (by omega)
  generalize (civ first).1 = y0, (civ first).2.1 = m0, (civ first).2.2 = d0, (civ day).1 = y, (civ day).2.1 = m, (civ day).2.2 = d at hcf hcd hmono ⊢
  obtain ⟨y00, y01, m00, m01, d00, d01, -⟩ := hcf
  obtain ⟨u00, u01, v00, v01, w00, w01, -⟩ := hcd
  have len4 : ((l4.length : Int) > 0) ↔ l4 ≠ [] := by
    cases l4 with
    | nil => simp
    | cons a b => simp
  have len6 : (((l6.map to60).length : Int) = 0) ↔ l6 = [] := by
    cases l6 with
    | nil => simp
    | cons a b => simp; omega
  have dec : ∀ {c : Prop} [Decidable c] {x : Int}, (c ↔ x = 0) → (c ↔ (x == 0) = true) := fun h => h.trans beq_iff_eq.symm
  have J0 : ∀ b : Bool, (b = true ↔ (l4 ≠ [] ∧ hasI l4 m = false)) →
      Ev (fun k => posthornref21_Matches.j0 k first day y m d y0 m0 d0 ((day + 3) % 7) ((first + 3) % 7) b a0 a1 a2 a3 l4 l5 (l6.map to60)) (matchS a0 a1 l4 l5 l6 first day y m d y0 m0 d0) := by
    intro b hb
    refine Ev.succ ?_
    simp only [posthornref21_Matches.j0]
    unfold matchS
    rw [if_neg hlt]
    refine Ev.ite (fun h => by rw [if_pos (hb.mp h)]; exact Ev.now _) (fun h => ?_)
    rw [if_neg (fun hc => h (hb.mpr hc))]
    have hmonth := ref_may_ev a0 a1 a2 a3 l4 l5 l6 y m d ((day + 3) % 7) d0 h5 h6 (by omega) w00 w01 (fun x hx => ⟨(hmem x hx).1, (hmem x hx).2.1⟩)
    refine Ev.ite (fun e1 => ?_) (fun e1 => ?_)
    · rw [if_pos e1]
      have hz : ∀ x ∈ l6, x.f1 = 0 := fun x hx => (hmem x hx).2.2 (decide_eq_false (by omega))
      refine Ev.neg (by omega) ?_
      rw [wrap64_in (x := day - first) (by omega) (by omega), Int.tmod_eq_emod_of_nonneg (by omega)]
      refine Ev.ite (fun r => ?_) (fun r => ?_)
      · rw [beq_iff_eq.mpr r, Bool.true_and, onS_plain _ _ hz]
        refine Ev.ite (fun e => ?_) (fun e => ?_)
        · rw [len6.mp e]; exact Ev.now _
        · rw [show l6.isEmpty = false from by cases l6 with | nil => exact absurd (len6.mpr rfl) e | cons a b => rfl, Bool.false_or]
          exact Ev.bind (ref_on_ev a0 a1 a2 a3 l4 l5 l6 _ h6) (Ev.now _)
      · rw [beq_eq_false_iff_ne.mpr r, Bool.false_and]; exact Ev.now _
    rw [if_neg e1]
    refine Ev.ite (fun e2 => ?_) (fun e2 => ?_)
    · rw [if_pos e2]
      have hz : ∀ x ∈ l6, x.f1 = 0 := fun x hx => (hmem x hx).2.2 (decide_eq_false (by omega))
      refine Ev.neg (by omega) ?_
      rw [wrap64_in (x := day - (day + 3) % 7) (by omega) (by omega), wrap64_in (x := day - (day + 3) % 7 - first) (by omega) (by omega), wrap64_in (x := day - (day + 3) % 7 - first + (first + 3) % 7) (by omega) (by omega),
        Int.tdiv_eq_ediv_of_nonneg (by omega), wrap64_in (by omega) (by omega), Int.tmod_eq_emod_of_nonneg (by omega)]
      refine Ev.ite (fun r => ?_) (fun r => ?_)
      · rw [beq_iff_eq.mpr r, Bool.true_and]
        refine Ev.bind (ref_on_ev a0 a1 a2 a3 l4 l5 l6 _ h6) ?_
        by_cases e : l6 = []
        · subst e
          rw [if_pos rfl]
          exact Ev.neg (by simp) (Ev.pos rfl (Ev.now _))
        · rw [if_neg e, onS_plain _ _ hz, show l6.isEmpty = false from by cases l6 with | nil => exact absurd rfl e | cons a b => rfl, Bool.false_or]
          cases hh : (l6.any fun x => x.f0 == (day + 3) % 7) with
          | true => exact Ev.pos rfl (Ev.now _)
          | false => exact Ev.neg (by decide) (Ev.neg (fun hc => e (len6.mp hc)) (Ev.now _))
      · rw [beq_eq_false_iff_ne.mpr r, Bool.false_and]; exact Ev.now _
    rw [if_neg e2]
    refine Ev.ite (fun e3 => ?_) (fun e3 => ?_)
    · rw [if_pos e3]
      refine Ev.neg (by omega) ?_
      rw [wrap64_in (x := 12 * y) (by omega) (by omega), wrap64_in (x := 12 * y + m) (by omega) (by omega), wrap64_in (x := 12 * y0) (by omega) (by omega), wrap64_in (x := 12 * y + m - 12 * y0) (by omega) (by omega), wrap64_in (x := 12 * y + m - 12 * y0 - m0) (by omega) (by omega),
        Int.tmod_eq_emod_of_nonneg (by omega), show 12 * y + m - 12 * y0 - m0 = 12 * (y - y0) + m - m0 by omega]
      refine Ev.ite (fun r => ?_) (fun r => ?_)
      · rw [beq_iff_eq.mpr r, Bool.true_and]
        exact Ev.bind hmonth (Ev.now _)
      · rw [beq_eq_false_iff_ne.mpr r, Bool.false_and]; exact Ev.now _
    · rw [if_neg e3]
      refine Ev.neg (by omega) ?_
      rw [wrap64_in (x := y - y0) (by omega) (by omega), Int.tmod_eq_emod_of_nonneg (by omega)]
      refine Ev.ite (fun r => ?_) (fun r => ?_)
      · rw [beq_iff_eq.mpr r, Bool.true_and]
        refine Ev.ite (fun e4 => ?_) (fun e4 => ?_)
        · rw [decide_eq_true (len4.mp e4), Bool.true_or, Bool.true_and]
          exact Ev.bind hmonth (Ev.now _)
        · rw [decide_eq_false (fun hc => e4 (len4.mpr hc)), Bool.false_or]
          refine Ev.ite (fun em => ?_) (fun em => ?_)
          · rw [beq_iff_eq.mpr em, Bool.true_and]
            exact Ev.bind hmonth (Ev.now _)
          · rw [beq_eq_false_iff_ne.mpr em, Bool.false_and]; exact Ev.now _
      · rw [beq_eq_false_iff_ne.mpr r, Bool.false_and, Bool.false_and]; exact Ev.now _
  refine Ev.ite (fun e4 => Ev.bind (ref_has_ev l4 m h4) (J0 _ ?_)) (fun e4 => J0 _ ?_)
  · have := len4.mp e4
    cases hasI l4 m <;> simp [this]
  · have : l4 = [] := Classical.byContradiction fun hc => e4 (len4.mpr hc)
    simp [this]
end Go.Proofs.YtfbmjonhohebiaaGreatDoor
end
section
set_option linter.unusedVariables false
set_option linter.unusedSimpArgs false
namespace Go.Proofs.YtfbmjonhohebiaaGreatDoor
open Go.RowKit Go.Proofs.YtfbmjonhohebiaaGreatDoorW.PrintWords Go.Proofs.YtfbmjonhohebiaaGreatDoorW.PrintLast Go.Proofs.YtfbmjonhohebiaaGreatDoorW.PrintMore PRecurExpands
theorem Blk_lt {w : World} {g : Nat} {o : Obj} (h : w.heap[g]? = some o) : g < w.heap.size := by
  rcases Nat.lt_or_ge g w.heap.size with hlt | hge
  · exact hlt
  · rw [Array.getElem?_eq_none hge] at h; cases h
def AsRel (w : World) (a0 a1 a2 a3 : Int) (v4 v5 : Value) (A6 : Option Addr) (c6 : Nat) (l6 : List S59) (i : Value) (wr : World) : Prop :=
  ∃ (k : Nat) (vo : Value), i = .int .i64 k ∧ k ≤ l6.length ∧ Aside0 (wr.heap[w.heap.size]? = some (.cells #[.int .i64 a0, .int .i64 a1, .int .i64 a2, .int .i64 a3, v4, v5, .slice A6 l6.length c6] 25 (0, 0))) ∧
    Aside0 (wr.heap[w.heap.size + 1]? = some (.cells #[.int .i64 0, .int .i64 0, .int .i64 0, .int .i64 0, .slice none 0 0, .slice none 0 0, .slice none 0 0] 34 (0, 0))) ∧
    Aside0 (wr.heap[w.heap.size + 2]? = some (.cells #[.int .i64 a0, .int .i64 a1, .int .i64 a2, .int .i64 a3, v4, v5, vo] 34 (0, 0))) ∧
    Aside0 (Kd.R k60 60 wr w.heap.size (fun q => w.heap.size + 1 + 1 < q) vo ((l6.take k).map to60)) ∧ Aside0 (Below w.heap.size w wr)
set_option maxRecDepth 100000 in
set_option maxHeartbeats 4000000 in
theorem law21_As (a0 a1 a2 a3 : Int) (A4 A5 A6 : Option Addr) (n4 n5 c4 c5 c6 : Nat) (l6 : List S59) (w : World) (hr6 : Kd.C k59 w A6 l6.length l6) (hc6 : l6.length ≤ c6) (hl6 : l6.length ≤ 1000000000) :
    Calls Tryz.prog 14 #[.agg #[.int .i64 a0, .int .i64 a1, .int .i64 a2, .int .i64 a3, .slice A4 n4 c4, .slice A5 n5 c5, .slice A6 l6.length c6]] w fun e w' =>
      ∃ A7 c7, e = .returned (.agg #[.int .i64 a0, .int .i64 a1, .int .i64 a2, .int .i64 a3, .slice A4 n4 c4, .slice A5 n5 c5, .slice A7 (l6.map to60).length c7]) ∧ Kd.C k60 w' A7 (l6.map to60).length (l6.map to60) ∧ (l6.map to60).length ≤ c7 ∧ Below w.heap.size w w' := by
  have HR6 := Aside0.mk hr6
  clear hr6
  go_enter Tryz.func14, Tryz.ntmps14
  go_wp2
  go_loopw [4] (fun i wr => AsRel w a0 a1 a2 a3 (.slice A4 n4 c4) (.slice A5 n5 c5) A6 c6 l6 i wr) (fun i _ => l6.length - (intOf i).toNat)
  case atStart =>
    refine ⟨0, .slice none 0 0, rfl, Nat.zero_le _, ⟨?_⟩, ⟨?_⟩, ⟨?_⟩, ⟨Kd.R_nil _ _ _ _ _⟩, ⟨(((Below.refl _ _).alloc (Nat.le_refl _) _).alloc (by simp) _).alloc (by simp; omega) _⟩⟩
    · rw [Below.heap_alloc _ _ _ (by simp; omega), Below.heap_alloc _ _ _ (by simp)]; exact heap_alloc_new _ _
    · rw [Below.heap_alloc _ _ _ (by simp)]
      have := heap_alloc_new (w.alloc (.cells #[.int .i64 a0, .int .i64 a1, .int .i64 a2, .int .i64 a3, .slice A4 n4 c4, .slice A5 n5 c5, .slice A6 l6.length c6] 25)) (.cells #[.int .i64 0, .int .i64 0, .int .i64 0, .int .i64 0, .slice none 0 0, .slice none 0 0, .slice none 0 0] 34)
      simpa using this
    · have := heap_alloc_new ((w.alloc (.cells #[.int .i64 a0, .int .i64 a1, .int .i64 a2, .int .i64 a3, .slice A4 n4 c4, .slice A5 n5 c5, .slice A6 l6.length c6] 25)).alloc (.cells #[.int .i64 0, .int .i64 0, .int .i64 0, .int .i64 0, .slice none 0 0, .slice none 0 0, .slice none 0 0] 34)) (.cells #[.int .i64 a0, .int .i64 a1, .int .i64 a2, .int .i64 a3, .slice A4 n4 c4, .slice A5 n5 c5, .slice none 0 0] 34)
      simpa using this
  case round =>
    obtain ⟨k, vo, rfl, hk, HX, HZ, HO, HR, HB⟩ := hrel
    have hbox : wr.cell? ⟨w.heap.size, 6, none⟩ = some (.slice A6 l6.length c6) := blk_cell HX.out 6
    have hb0 : w.heap.size < wr.heap.size := Blk_lt HX.out
    have hb2 : w.heap.size + 2 < wr.heap.size := Blk_lt HO.out
    by_cases hlt : k < l6.length
    · have hlt' : (k : Int) < (l6.length : Int) := by omega
      have hk0 : (0 : Int) ≤ (k : Int) := Int.natCast_nonneg _
      obtain ⟨ad, had, hx0w, hx1w⟩ := at_T59 HR6.out (k : Int) hk0 hlt'
      have hadb := World.block_lt_of_cell? _ _ hx0w
      have hx0 := (HB.out.cell (p := ad.add ((k : Int).toNat * 2)) hadb).trans hx0w
      have hx1 := (HB.out.cell (p := ⟨(ad.add ((k : Int).toNat * 2)).block, (ad.add ((k : Int).toNat * 2)).off + 1, none⟩) hadb).trans hx1w
      clear hx0w hx1w
      have hcur : wr.cell? ⟨w.heap.size + 1 + 1, 6, none⟩ = some vo := blk_cell HO.out 6
      have hfr : wr.frozen? ⟨w.heap.size + 1 + 1, 6, none⟩ = false := blk_frozen HO.out 6
      subst had
      rw [Int.toNat_natCast] at hx0 hx1 hadb
      generalize hx : rd_T59 l6 (k : Int) = x at hx0 hx1
      have HXX := Lib.hid hx
      clear hx
      obtain ⟨x0, x1⟩ := x
      simp only at hx0 hx1
      go_wp2

      have HR' := Aside0.mk (Kd.R_drew HR.out)
      have HX' := Aside0.mk (blk_drew HX.out)
      have HZ' := Aside0.mk (blk_drew HZ.out)
      have HO' := Aside0.mk (blk_drew HO.out)
      have HB' := Aside0.mk (below_drew1 HB.out)
      have hx0' : wr.drew.cell? (ad.add (k * 2)) = some (.int .i64 x0) := hx0
      have hx1' : wr.drew.cell? ⟨(ad.add (k * 2)).block, (ad.add (k * 2)).off + 1, none⟩ = some (.int .i64 x1) := hx1
      clear HR HX HZ HO HB hx0 hx1 hbox hcur hfr
      have HR := HR'
      have HX := HX'
      have HZ := HZ'
      have HO := HO'
      have HB := HB'
      have hx0 := hx0'
      have hx1 := hx1'
      clear HR' HX' HZ' HO' HB' hx0' hx1'
      refine start_ (n := 19) (S := fun w' => w'.cell? ⟨w.heap.size + 1 + 1, 0, none⟩ = some (.int .i64 a0) ∧ w'.cell? ⟨w.heap.size + 1 + 1, 1, none⟩ = some (.int .i64 a1) ∧ w'.cell? ⟨w.heap.size + 1 + 1, 2, none⟩ = some (.int .i64 a2) ∧ w'.cell? ⟨w.heap.size + 1 + 1, 3, none⟩ = some (.int .i64 a3) ∧ w'.cell? ⟨w.heap.size + 1 + 1, 4, none⟩ = some (.slice A4 n4 c4) ∧ w'.cell? ⟨w.heap.size + 1 + 1, 5, none⟩ = some (.slice A5 n5 c5) ∧ w'.cell? ⟨w.heap.size + 1 + 1, 6, none⟩ = some (vo) ∧ w'.cell? ⟨w.heap.size, 0, none⟩ = some (.int .i64 a0) ∧ w'.cell? ⟨w.heap.size, 1, none⟩ = some (.int .i64 a1) ∧ w'.cell? ⟨w.heap.size, 2, none⟩ = some (.int .i64 a2) ∧ w'.cell? ⟨w.heap.size, 3, none⟩ = some (.int .i64 a3) ∧ w'.cell? ⟨w.heap.size, 4, none⟩ = some (.slice A4 n4 c4) ∧ w'.cell? ⟨w.heap.size, 5, none⟩ = some (.slice A5 n5 c5) ∧ w'.cell? ⟨w.heap.size, 6, none⟩ = some (.slice (some ad) l6.length c6) ∧ w'.cell? (ad.add (k * 2)) = some (.int .i64 x0) ∧ w'.cell? ⟨(ad.add (k * 2)).block, (ad.add (k * 2)).off + 1, none⟩ = some (.int .i64 x1) ∧ w'.cell? (ad.add (k * 2)) = some (.int .i64 x0) ∧ w'.cell? ⟨(ad.add (k * 2)).block, (ad.add (k * 2)).off + 1, none⟩ = some (.int .i64 x1)) (ds := [16, 18]) #[false, false, false, false, false, false, false, false, false, false, false, false, false, false, false, false, false, false, false] (by kernel_rfl) rfl rfl ⟨(blk_cell HO.out 0).trans rfl, (blk_cell HO.out 1).trans rfl, (blk_cell HO.out 2).trans rfl, (blk_cell HO.out 3).trans rfl, (blk_cell HO.out 4).trans rfl, (blk_cell HO.out 5).trans rfl, (blk_cell HO.out 6).trans rfl, (blk_cell HX.out 0).trans rfl, (blk_cell HX.out 1).trans rfl, (blk_cell HX.out 2).trans rfl, (blk_cell HX.out 3).trans rfl, (blk_cell HX.out 4).trans rfl, (blk_cell HX.out 5).trans rfl, (blk_cell HX.out 6).trans rfl, hx0, hx1, hx0, hx1⟩ (fun hHeld => ?_); refine with_tabW posthornlaw21_As.tab5 posthornlaw21_As.bits5 (fun HT_ HW_ => ?_)
      generalize wr.drew = w18 at HR HX HZ HO HB hx0 hx1 hHeld ⊢
      refine pure_ (i := 0) (N := some 25) (v := ?_) (a' := ?_) #[true, false, false, false, false, false, false, false, false, false, false, false, false, false, false, false, false, false, false] rfl rfl (any_of HT_.out (by kernel_rfl)) (fun _ _ _ h => h) (Or.inl ⟨by rfl, ?_⟩) ?_ ?_
      rotate_left
      · intro w'
        go_simp
        with_reducible rfl
      rotate_left
      · simp only [Act.put, List.setIfInBounds_toArray, List.set_cons_zero, List.set_cons_succ, i64_w, i32_w]
        rfl
      refine pure_ (i := 2) (N := some 27) (v := ?_) (a' := ?_) #[true, false, true, false, false, false, false, false, false, false, false, false, false, false, false, false, false, false, false] rfl rfl (any_of HT_.out (by kernel_rfl)) (fun _ _ _ h => h) (Or.inl ⟨by rfl, ?_⟩) ?_ ?_
      rotate_left
      · intro w'
        go_simp
        with_reducible rfl
      rotate_left
      · simp only [Act.put, List.setIfInBounds_toArray, List.set_cons_zero, List.set_cons_succ, i64_w, i32_w]
        rfl
      refine pure_ (i := 4) (N := some 29) (v := ?_) (a' := ?_) #[true, false, true, false, true, false, false, false, false, false, false, false, false, false, false, false, false, false, false] rfl rfl (any_of HT_.out (by kernel_rfl)) (fun _ _ _ h => h) (Or.inl ⟨by rfl, ?_⟩) ?_ ?_
      rotate_left
      · intro w'
        go_simp
        with_reducible rfl
      rotate_left
      · simp only [Act.put, List.setIfInBounds_toArray, List.set_cons_zero, List.set_cons_succ, i64_w, i32_w]
        rfl
      refine pure_ (i := 8) (N := some 33) (v := ?_) (a' := ?_) #[true, false, true, false, true, false, false, false, true, false, false, false, false, false, false, false, false, false, false] rfl rfl (any_of HT_.out (by kernel_rfl)) (fun _ _ _ h => h) (Or.inl ⟨by rfl, ?_⟩) ?_ ?_
      rotate_left
      · intro w'
        go_simp
        with_reducible rfl
      rotate_left
      · simp only [Act.put, List.setIfInBounds_toArray, List.set_cons_zero, List.set_cons_succ, i64_w, i32_w]
        rfl
      refine pure_ (i := 10) (N := some 35) (v := ?_) (a' := ?_) #[true, false, true, false, true, false, false, false, true, false, true, false, false, false, false, false, false, false, false] rfl rfl (any_of HT_.out (by kernel_rfl)) (fun _ _ _ h => h) (Or.inl ⟨by rfl, ?_⟩) ?_ ?_
      rotate_left
      · intro w'
        go_simp
        with_reducible rfl
      rotate_left
      · simp only [Act.put, List.setIfInBounds_toArray, List.set_cons_zero, List.set_cons_succ, i64_w, i32_w]
        rfl
      refine take_ (i := 1) (N := some 26) (v := ?_) (a' := ?_) #[true, true, true, false, true, false, false, false, true, false, true, false, false, false, false, false, false, false, false] rfl rfl (take_ofW HT_.out HW_.out (by kernel_rfl)) (fun _ _ _ h => h) (Or.inl ⟨by rfl, ?_⟩) hHeld ?_ ?_
      rotate_left
      · rintro w' ⟨s0, s1, s2, s3, s4, s5, s6, s7, s8, s9, s10, s11, s12, s13, s14, s15, s16, s17⟩
        go_simp
        with_reducible rfl
      rotate_left
      · simp only [Act.put, List.setIfInBounds_toArray, List.set_cons_zero, List.set_cons_succ, i64_w, i32_w]
        rfl
      refine take_ (i := 3) (N := some 28) (v := ?_) (a' := ?_) #[true, true, true, true, true, false, false, false, true, false, true, false, false, false, false, false, false, false, false] rfl rfl (take_ofW HT_.out HW_.out (by kernel_rfl)) (fun _ _ _ h => h) (Or.inl ⟨by rfl, ?_⟩) hHeld ?_ ?_
      rotate_left
      · rintro w' ⟨s0, s1, s2, s3, s4, s5, s6, s7, s8, s9, s10, s11, s12, s13, s14, s15, s16, s17⟩
        go_simp
        with_reducible rfl
      rotate_left
      · simp only [Act.put, List.setIfInBounds_toArray, List.set_cons_zero, List.set_cons_succ, i64_w, i32_w]
        rfl
      refine pure_ (i := 5) (N := some 30) (v := ?_) (a' := ?_) #[true, true, true, true, true, true, false, false, true, false, true, false, false, false, false, false, false, false, false] rfl rfl (any_of HT_.out (by kernel_rfl)) (fun _ _ _ h => h) (Or.inl ⟨by rfl, ?_⟩) ?_ ?_
      rotate_left
      · intro w'
        go_simp
        with_reducible rfl
      rotate_left
      · simp only [Act.put, List.setIfInBounds_toArray, List.set_cons_zero, List.set_cons_succ, i64_w, i32_w]
        rfl
      refine pure_ (i := 6) (N := some 31) (v := ?_) (a' := ?_) #[true, true, true, true, true, true, true, false, true, false, true, false, false, false, false, false, false, false, false] rfl rfl (any_of HT_.out (by kernel_rfl)) (fun _ _ _ h => h) (Or.inl ⟨by rfl, ?_⟩) ?_ ?_
      rotate_left
      · intro w'
        go_simp
        with_reducible rfl
      rotate_left
      · simp only [Act.put, List.setIfInBounds_toArray, List.set_cons_zero, List.set_cons_succ, i64_w, i32_w]
        rfl
      refine take_ (i := 7) (N := some 32) (v := ?_) (a' := ?_) #[true, true, true, true, true, true, true, true, true, false, true, false, false, false, false, false, false, false, false] rfl rfl (take_ofW HT_.out HW_.out (by kernel_rfl)) (fun _ _ _ h => h) (Or.inl ⟨by rfl, ?_⟩) hHeld ?_ ?_
      rotate_left
      · rintro w' ⟨s0, s1, s2, s3, s4, s5, s6, s7, s8, s9, s10, s11, s12, s13, s14, s15, s16, s17⟩
        go_simp
        with_reducible rfl
      rotate_left
      · simp only [Act.put, List.setIfInBounds_toArray, List.set_cons_zero, List.set_cons_succ, i64_w, i32_w]
        rfl
      refine take_ (i := 9) (N := some 34) (v := ?_) (a' := ?_) #[true, true, true, true, true, true, true, true, true, true, true, false, false, false, false, false, false, false, false] rfl rfl (take_ofW HT_.out HW_.out (by kernel_rfl)) (fun _ _ _ h => h) (Or.inl ⟨by rfl, ?_⟩) hHeld ?_ ?_
      rotate_left
      · rintro w' ⟨s0, s1, s2, s3, s4, s5, s6, s7, s8, s9, s10, s11, s12, s13, s14, s15, s16, s17⟩
        go_simp
        with_reducible rfl
      rotate_left
      · simp only [Act.put, List.setIfInBounds_toArray, List.set_cons_zero, List.set_cons_succ, i64_w, i32_w]
        rfl
      refine pure_ (i := 11) (N := some 36) (v := ?_) (a' := ?_) #[true, true, true, true, true, true, true, true, true, true, true, true, false, false, false, false, false, false, false] rfl rfl (any_of HT_.out (by kernel_rfl)) (fun _ _ _ h => h) (Or.inl ⟨by rfl, ?_⟩) ?_ ?_
      rotate_left
      · intro w'
        go_simp
        with_reducible rfl
      rotate_left
      · simp only [Act.put, List.setIfInBounds_toArray, List.set_cons_zero, List.set_cons_succ, i64_w, i32_w]
        rfl
      refine pure_ (i := 12) (N := some 37) (v := ?_) (a' := ?_) #[true, true, true, true, true, true, true, true, true, true, true, true, true, false, false, false, false, false, false] rfl rfl (any_of HT_.out (by kernel_rfl)) (fun _ _ _ h => h) (Or.inl ⟨by rfl, ?_⟩) ?_ ?_
      rotate_left
      · intro w'
        go_simp
        with_reducible rfl
      rotate_left
      · simp only [Act.put, List.setIfInBounds_toArray, List.set_cons_zero, List.set_cons_succ, i64_w, i32_w]
        rfl
      refine take_ (i := 13) (N := some 38) (v := ?_) (a' := ?_) #[true, true, true, true, true, true, true, true, true, true, true, true, true, true, false, false, false, false, false] rfl rfl (take_ofW HT_.out HW_.out (by kernel_rfl)) (fun _ _ _ h => h) (Or.inl ⟨by rfl, ?_⟩) hHeld ?_ ?_
      rotate_left
      · rintro w' ⟨s0, s1, s2, s3, s4, s5, s6, s7, s8, s9, s10, s11, s12, s13, s14, s15, s16, s17⟩
        go_simp
        with_reducible rfl
      rotate_left
      · simp only [Act.put, List.setIfInBounds_toArray, List.set_cons_zero, List.set_cons_succ, i64_w, i32_w]
        rfl
      refine pure_ (i := 14) (N := some 39) (v := ?_) (a' := ?_) #[true, true, true, true, true, true, true, true, true, true, true, true, true, true, true, false, false, false, false] rfl rfl (any_of HT_.out (by kernel_rfl)) (fun _ _ _ h => h) (Or.inl ⟨by rfl, ?_⟩) ?_ ?_
      rotate_left
      · intro w'
        go_simp
        with_reducible rfl
      rotate_left
      · simp only [Act.put, List.setIfInBounds_toArray, List.set_cons_zero, List.set_cons_succ, i64_w, i32_w]
        rfl
      refine one_ (i := 15) (N := some 40) #[true, true, true, true, true, true, true, true, true, true, true, true, true, true, true, true, false, false, false] rfl rfl (one_of HT_.out (by kernel_rfl)) (by decide) (fun K hK => ?_)
      refine value_ (w1 := ?_) (v := ?_) (by rfl) rfl ?_ ?_
      rotate_left 2
      · go_simp
        constructor
        · rfl
        · rfl
      refine hK.out _ _ ⟨(blk_cell (blk_alloc HO.out _) 0).trans rfl, (blk_cell (blk_alloc HO.out _) 1).trans rfl, (blk_cell (blk_alloc HO.out _) 2).trans rfl, (blk_cell (blk_alloc HO.out _) 3).trans rfl, (blk_cell (blk_alloc HO.out _) 4).trans rfl, (blk_cell (blk_alloc HO.out _) 5).trans rfl, (blk_cell (blk_alloc HO.out _) 6).trans rfl, (blk_cell (blk_alloc HX.out _) 0).trans rfl, (blk_cell (blk_alloc HX.out _) 1).trans rfl, (blk_cell (blk_alloc HX.out _) 2).trans rfl, (blk_cell (blk_alloc HX.out _) 3).trans rfl, (blk_cell (blk_alloc HX.out _) 4).trans rfl, (blk_cell (blk_alloc HX.out _) 5).trans rfl, (blk_cell (blk_alloc HX.out _) 6).trans rfl, (World.cell?_alloc_lt _ _ _ (World.block_lt_of_cell? _ _ (hHeld.2.2.2.2.2.2.2.2.2.2.2.2.2.2.1))).trans (hHeld.2.2.2.2.2.2.2.2.2.2.2.2.2.2.1), (World.cell?_alloc_lt _ _ _ (World.block_lt_of_cell? _ _ (hHeld.2.2.2.2.2.2.2.2.2.2.2.2.2.2.2.1))).trans (hHeld.2.2.2.2.2.2.2.2.2.2.2.2.2.2.2.1), (World.cell?_alloc_lt _ _ _ (World.block_lt_of_cell? _ _ (hHeld.2.2.2.2.2.2.2.2.2.2.2.2.2.2.2.2.1))).trans (hHeld.2.2.2.2.2.2.2.2.2.2.2.2.2.2.2.2.1), (World.cell?_alloc_lt _ _ _ (World.block_lt_of_cell? _ _ (hHeld.2.2.2.2.2.2.2.2.2.2.2.2.2.2.2.2.2))).trans (hHeld.2.2.2.2.2.2.2.2.2.2.2.2.2.2.2.2.2)⟩ (fun hHeld => ?_)
      refine norm_ (a' := ?_) ?_ ?_
      rotate_left
      · show Act.put _ (some 40) _ = _
        simp only [Act.put, List.setIfInBounds_toArray, List.set_cons_zero, List.set_cons_succ, i64_w, i32_w]
        rfl
      refine last_ (i := 16) (N := some 41) #[true, true, true, true, true, true, true, true, true, true, true, true, true, true, true, true, true, false, false] rfl rfl (one_of HT_.out (by kernel_rfl)) (by decide) (fun K hK => ?_)
      refine Kd.R_append_step k60 (w0 := w) w.heap.size (by rfl) (.tmp 26) (.tmp 40) 32 60 (.agg #[(.int .i64 0), (.int .i64 0)]) 16 rfl Tryz.underlying32 info60 rfl (by decide) (by omega) vo ((l6.take k).map to60) (⟨x0, x1⟩ : S60) [.int .i64 x0, .int .i64 x1] (fun q => w.heap.size + 1 + 1 < q) (fun _ => False) rfl rfl ?aP (fun _ hk => hk.elim) ?aF ?aO ?aB ?aS ?aL ?_
      (case aP => exact k60_mkM _ _ _ (⟨x0, x1⟩ : S60))
      (case aB => exact (by repeat (first | (with_reducible first | exact HB.out | apply below_alloc | apply below_drew1) | exact HB.out)))
      (case aF => exact (fun q hq => by have := Blk_lt HO.out; first | omega | (simp at hq; omega)))
      (case aO => exact (by (with_reducible repeat (first | apply Kd.R_alloc | apply Kd.R_drewN | apply Kd.R_drew)); exact HR.out))
      (case aS => exact (by have := Blk_lt HO.out; first | omega | (simp; omega)))
      (case aL => simp; omega)
      intro v306 w19 ho hb hg hat
      obtain ⟨Y, hY⟩ : ∃ Y, Y = (l6.take k).map to60 ++ [(⟨x0, x1⟩ : S60)] := ⟨_, rfl⟩
      rw [← hY] at ho
      have HY := Lib.hid hY
      clear hY
      have hHO1 := Aside0.mk (blk_grown (g := w.heap.size + 1 + 1) (o := .cells #[.int .i64 a0, .int .i64 a1, .int .i64 a2, .int .i64 a3, .slice A4 n4 c4, .slice A5 n5 c5, vo] 34 (0, 0)) (by (with_reducible repeat (first | refine blk_drewN ?_ _ | refine blk_drew ?_ | refine blk_alloc ?_ _)); exact HO.out) hg (fun e => absurd (HR.out.1 _ e.symm) (by omega)))
      have hHX1 := Aside0.mk (blk_grown (g := w.heap.size) (o := .cells #[.int .i64 a0, .int .i64 a1, .int .i64 a2, .int .i64 a3, .slice A4 n4 c4, .slice A5 n5 c5, .slice (some ad) l6.length c6] 25 (0, 0)) (by (with_reducible repeat (first | refine blk_drewN ?_ _ | refine blk_drew ?_ | refine blk_alloc ?_ _)); exact HX.out) hg (fun e => absurd (HR.out.1 _ e.symm) (by omega)))
      have hHZ1 := Aside0.mk (blk_grown (g := w.heap.size + 1) (o := .cells #[.int .i64 0, .int .i64 0, .int .i64 0, .int .i64 0, .slice none 0 0, .slice none 0 0, .slice none 0 0] 34 (0, 0)) (by (with_reducible repeat (first | refine blk_drewN ?_ _ | refine blk_drew ?_ | refine blk_alloc ?_ _)); exact HZ.out) hg (fun e => absurd (HR.out.1 _ e.symm) (by omega)))
      have hHR1 := Aside0.mk ho
      obtain ⟨Ao20, co20, eo20⟩ := Kd.R_slice hHR1.out
      subst eo20
      have hHB1 := Aside0.mk hb
      clear ho hb hg hat hHeld
      refine hK.out _ _ ?_
      refine norm_ (a' := ?_) ?_ ?_
      rotate_left
      · show Act.put _ (some 41) _ = _
        simp only [Act.put, List.setIfInBounds_toArray, List.set_cons_zero, List.set_cons_succ, i64_w, i32_w]
        rfl
      refine pure_ (i := 17) (N := some 42) (v := ?_) (a' := ?_) #[true, true, true, true, true, true, true, true, true, true, true, true, true, true, true, true, true, true, false] rfl rfl (any_of HT_.out (by kernel_rfl)) (fun _ _ _ h => h) (Or.inl ⟨by rfl, ?_⟩) ?_ ?_
      rotate_left
      · intro w'
        go_simp
        with_reducible rfl
      rotate_left
      · simp only [Act.put, List.setIfInBounds_toArray, List.set_cons_zero, List.set_cons_succ, i64_w, i32_w]
        rfl
      refine last_ (i := 18) (N := none) #[true, true, true, true, true, true, true, true, true, true, true, true, true, true, true, true, true, true, true] rfl rfl (one_of HT_.out (by kernel_rfl)) (by decide) (fun K hK => ?_)
      have hs21 : w19.cell? ⟨w.heap.size + 1 + 1, 6, none⟩ = some vo := blk_cell hHO1.out 6
      have hfs21 := blk_frozen hHO1.out 6
      refine skip_ (w1 := ?_) (by rfl) rfl ?_ ?_
      rotate_left
      · go_simp
        rfl
      refine hK.out _ _ ?_
      refine done_ (done_of HT_.out (by kernel_rfl)) ?_

      go_wp2
      go_roundw
      case measure => simp [intOf]; omega
      case rel =>
        refine ⟨k + 1, _, by go_num, by omega, ⟨blk_far hHX1.out (show w.heap.size ≠ w.heap.size + 1 + 1 from by omega) _⟩, ⟨blk_far hHZ1.out (show w.heap.size + 1 ≠ w.heap.size + 1 + 1 from by omega) _⟩, ⟨blk_put hHO1.out 6 _ rfl⟩, ⟨?_⟩, ⟨below_set hHB1.out (by omega)⟩⟩
        have e : (l6.take (k + 1)).map to60 = Y := by
          rw [HY.out, List.take_succ_eq_append_getElem hlt, List.map_append]
          have e2 : l6[k] = ⟨x0, x1⟩ := by
            have := HXX.out
            unfold rd_T59 at this
            simpa [hlt] using this
          rw [e2]; rfl
        rw [e]
        exact Kd.R_far (p := ⟨w.heap.size + 1 + 1, 6, none⟩) hHR1.out (fun q hq => by simp; omega) _
    · obtain rfl : k = l6.length := by omega
      have HR2 := HR.out
      rw [List.take_length] at HR2
      obtain ⟨Av, cv, ev, hcv, hCv⟩ := Kd.R_reads HR2
      subst ev
      rw [List.length_map] at hCv hcv
      simp only [List.length_map] at HO
      have HRK := Aside0.mk HR2
      clear hCv HR HR2
      have o0 : wr.cell? ⟨w.heap.size + 1 + 1, 0, none⟩ = some (.int .i64 a0) := blk_cell HO.out 0
      have o1 : wr.cell? ⟨w.heap.size + 1 + 1, 1, none⟩ = some (.int .i64 a1) := blk_cell HO.out 1
      have o2 : wr.cell? ⟨w.heap.size + 1 + 1, 2, none⟩ = some (.int .i64 a2) := blk_cell HO.out 2
      have o3 : wr.cell? ⟨w.heap.size + 1 + 1, 3, none⟩ = some (.int .i64 a3) := blk_cell HO.out 3
      have o4 : wr.cell? ⟨w.heap.size + 1 + 1, 4, none⟩ = some (.slice A4 n4 c4) := blk_cell HO.out 4
      have o5 : wr.cell? ⟨w.heap.size + 1 + 1, 5, none⟩ = some (.slice A5 n5 c5) := blk_cell HO.out 5
      have o6 : wr.cell? ⟨w.heap.size + 1 + 1, 6, none⟩ = some (.slice Av l6.length cv) := blk_cell HO.out 6
      have z0 : wr.cell? ⟨w.heap.size + 1, 0, none⟩ = some (.int .i64 0) := blk_cell HZ.out 0
      have z1 : wr.cell? ⟨w.heap.size + 1, 1, none⟩ = some (.int .i64 0) := blk_cell HZ.out 1
      have z2 : wr.cell? ⟨w.heap.size + 1, 2, none⟩ = some (.int .i64 0) := blk_cell HZ.out 2
      have z3 : wr.cell? ⟨w.heap.size + 1, 3, none⟩ = some (.int .i64 0) := blk_cell HZ.out 3
      have z4 : wr.cell? ⟨w.heap.size + 1, 4, none⟩ = some (.slice none 0 0) := blk_cell HZ.out 4
      have z5 : wr.cell? ⟨w.heap.size + 1, 5, none⟩ = some (.slice none 0 0) := blk_cell HZ.out 5
      have z6 : wr.cell? ⟨w.heap.size + 1, 6, none⟩ = some (.slice none 0 0) := blk_cell HZ.out 6
      have f0 := blk_frozen HZ.out 0
      have f1 := blk_frozen HZ.out 1
      have f2 := blk_frozen HZ.out 2
      have f3 := blk_frozen HZ.out 3
      have f4 := blk_frozen HZ.out 4
      have f5 := blk_frozen HZ.out 5
      have f6 := blk_frozen HZ.out 6
      go_wp2
      have g7 := blk_put (blk_put (blk_put (blk_put (blk_put (blk_put (blk_put HZ.out 0 (.int .i64 a0) rfl) 1 (.int .i64 a1) rfl) 2 (.int .i64 a2) rfl) 3 (.int .i64 a3) rfl) 4 (.slice A4 n4 c4) rfl) 5 (.slice A5 n5 c5) rfl) 6 (.slice Av l6.length cv) rfl
      have hb7 := ((((((((HB.out.setCell (p := ⟨w.heap.size + 1, 0, none⟩) (by simp) (.int .i64 a0)).setCell (p := ⟨w.heap.size + 1, 1, none⟩) (by simp) (.int .i64 a1)).setCell (p := ⟨w.heap.size + 1, 2, none⟩) (by simp) (.int .i64 a2)).setCell (p := ⟨w.heap.size + 1, 3, none⟩) (by simp) (.int .i64 a3)).setCell (p := ⟨w.heap.size + 1, 4, none⟩) (by simp) (.slice A4 n4 c4)).setCell (p := ⟨w.heap.size + 1, 5, none⟩) (by simp) (.slice A5 n5 c5)).setCell (p := ⟨w.heap.size + 1, 6, none⟩) (by simp) (.slice Av l6.length cv)))
      refine bodyPost_ret (results_cell_row rfl _ _ (w.heap.size + 1) _ _ _ _ rfl g7 Tryz.underlying34 rfl (by kernel_rfl)) rfl ⟨Av, cv, by rw [List.length_map]; rfl, ?_, by rw [List.length_map]; exact hcv, hb7⟩
      have hR7 := Kd.R_far (p := ⟨w.heap.size + 1, 6, none⟩) (Kd.R_far (p := ⟨w.heap.size + 1, 5, none⟩) (Kd.R_far (p := ⟨w.heap.size + 1, 4, none⟩) (Kd.R_far (p := ⟨w.heap.size + 1, 3, none⟩) (Kd.R_far (p := ⟨w.heap.size + 1, 2, none⟩) (Kd.R_far (p := ⟨w.heap.size + 1, 1, none⟩) (Kd.R_far (p := ⟨w.heap.size + 1, 0, none⟩) HRK.out
        (fun q hq => by simp; omega) (.int .i64 a0)) (fun q hq => by simp; omega) (.int .i64 a1)) (fun q hq => by simp; omega) (.int .i64 a2)) (fun q hq => by simp; omega) (.int .i64 a3)) (fun q hq => by simp; omega) (.slice A4 n4 c4)) (fun q hq => by simp; omega) (.slice A5 n5 c5)) (fun q hq => by simp; omega) (.slice Av l6.length cv)
      obtain ⟨A', c', e', _, h'⟩ := Kd.R_reads hR7
      injection e' with e1 e2 e3
      subst e1
      exact h'
end Go.Proofs.YtfbmjonhohebiaaGreatDoor
end
