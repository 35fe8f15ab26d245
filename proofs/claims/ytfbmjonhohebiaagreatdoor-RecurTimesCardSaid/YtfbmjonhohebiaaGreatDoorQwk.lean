/- Texts merged: what the law needs, and no more. -/
import Derived.Test.YtfbmjonhohebiaaGreatDoorQwj
import Derived.Lib.SmallJoins
import Derived.Deep.Slices
import Derived.ChangeSame
import Derived.Test.YtfbmjonhohebiaaGreatDoorRows
import Derived.LaidSub
import Derived.MakeChecks
import Derived.Lay
import Derived.Lib.LaidTab
import Derived.Shelf.Vars
import Derived.ProofKit
import Derived.OpenShut
import Derived.ChangeOld
import Derived.Carry
import Derived.Test.YtfbmjonhohebiaaGreatDoorTie
import Derived.Test.YtfbmjonhohebiaaGreatDoorCards
import Derived.SevenTiedAt
import Derived.LaidMore
section
set_option linter.unusedVariables false
set_option linter.unusedSimpArgs false
namespace Go.Proofs.YtfbmjonhohebiaaGreatDoor
open Go.RowKit Go.Proofs.YtfbmjonhohebiaaGreatDoorW.PrintWords Go.Proofs.YtfbmjonhohebiaaGreatDoorW.PrintLast Go.Proofs.YtfbmjonhohebiaaGreatDoorW.PrintMore PRecurExpands
theorem cutC_zero (c : Int) (l : List Int) : cutC c 0 l = if 0 < c then l.take c.toNat else l := by unfold cutC; simp
theorem cutC_srt (c : Int) {l : List Int} (h : Srt l) : Srt (cutC c 0 l) := by
  rw [cutC_zero]
  split
  · exact List.Pairwise.take h
  · exact h
theorem cutC_lt (c m : Int) {l : List Int} (h : Srt l) : (cutC c 0 l).filter (fun x => decide (x < m)) = cutC c 0 (l.filter (fun x => decide (x < m))) := by
  rw [cutC_zero, cutC_zero]
  split
  · exact srt_filter_lt_take l _ m h
  · rfl
theorem okB_lt {mid upt u : Int} (h : mid ≤ upt) (l : List Int) : (l.filter (okB upt u)).filter (fun x => decide (x < mid)) = l.filter (okB mid u) := by
  rw [List.filter_filter]
  refine List.filter_congr (fun t _ => ?_)
  unfold okB
  by_cases h1 : t < mid
  · rw [decide_eq_true h1, decide_eq_true (show t < upt by omega)]; simp
  · rw [decide_eq_false h1]; simp
theorem win_pure {b : Bool} {a0 a1 a2 a3 : Int} {l4 l5 : List Int} {l6 : List S59} {first frm mid upt : Int} (e1 : expE b first frm upt 1000 = 0) (e2 : expE b first frm mid 1000 = 0) (e3 : expE b first mid upt 1000 = 0) (h1 : frm ≤ mid) (h2 : mid ≤ upt) :
    expV b a0 a1 a2 a3 l4 l5 l6 first frm upt 1000 = (expV b a0 a1 a2 a3 l4 l5 l6 first frm mid 1000 ++ expV b a0 a1 a2 a3 l4 l5 l6 first mid upt 1000).take 1000 := by
  rw [expV_closed e1, expV_closed e2, expV_closed e3, show (1000 : Int).toNat = 1000 from rfl, take_two]
  have hs := cutC_srt a2 ((allT_srt a0 a1 l4 l5 l6 first).filter (okB upt a3))
  have hX : cutC a2 0 ((allT a0 a1 l4 l5 l6 first).filter (okB mid a3)) = (cutC a2 0 ((allT a0 a1 l4 l5 l6 first).filter (okB upt a3))).filter (fun x => decide (x < mid)) := by
    rw [cutC_lt _ _ ((allT_srt a0 a1 l4 l5 l6 first).filter (okB upt a3)), okB_lt h2]
  rw [hX, srt_split _ _ _ hs h1]
theorem allT_first {a0 a1 : Int} {l4 l5 : List Int} {l6 : List S59} {first t : Int} (h : t ∈ allT a0 a1 l4 l5 l6 first) : first ≤ t := by
  obtain ⟨d, h1, _, _, rfl⟩ := allT_mem.mp h
  omega
theorem cutC_mem {c : Int} {l : List Int} {x : Int} (h : x ∈ cutC c 0 l) : x ∈ l := by
  rw [cutC_zero] at h
  split at h
  · exact List.mem_of_mem_take h
  · exact h
theorem expV_first {b : Bool} {a0 a1 a2 a3 : Int} {l4 l5 : List Int} {l6 : List S59} {first upt most : Int} (e : expE b first first upt most = 0) :
    expV b a0 a1 a2 a3 l4 l5 l6 first first upt most = (cutC a2 0 ((allT a0 a1 l4 l5 l6 first).filter (okB upt a3))).take most.toNat := by
  rw [expV_closed e]
  congr 1
  exact List.filter_eq_self.mpr (fun x hx => decide_eq_true (allT_first (List.mem_filter.mp (cutC_mem hx)).1))
theorem okB_none (upt : Int) (l : List Int) : l.filter (okB upt (-1)) = l.filter (fun x => decide (x < upt)) := List.filter_congr (fun t _ => by unfold okB; simp)
theorem count_pure {b : Bool} {a0 a1 n : Int} {l4 l5 : List Int} {l6 : List S59} {first upt : Int} (e : expE b first first upt 1000 = 0) (h1 : 1 ≤ n) (h2 : n ≤ 1000) :
    expV b a0 a1 n (-1) l4 l5 l6 first first upt 1000 = (expV b a0 a1 0 (-1) l4 l5 l6 first first upt 1000).take n.toNat := by
  rw [expV_first e, expV_first e, cutC_zero, cutC_zero, if_pos (by omega), if_neg (by omega), List.take_take, List.take_take, show (1000 : Int).toNat = 1000 from rfl]
  congr 1
  omega
theorem until_pure {b b' : Bool} {a0 a1 : Int} {l4 l5 : List Int} {l6 : List S59} {first upt : Int} (e : expE b first first upt 1000 = 0) (e' : expE b' first first upt 1000 = 0) (k : Nat) (hk : k < (expV b a0 a1 0 (-1) l4 l5 l6 first first upt 1000).length) (hk2 : k < 1000)
    (hu : (expV b a0 a1 0 (-1) l4 l5 l6 first first upt 1000)[k] ≠ -1) :
    expV b' a0 a1 0 ((expV b a0 a1 0 (-1) l4 l5 l6 first first upt 1000)[k]) l4 l5 l6 first first upt 1000 = (expV b a0 a1 0 (-1) l4 l5 l6 first first upt 1000).take (k + 1) := by
  have hE : expV b a0 a1 0 (-1) l4 l5 l6 first first upt 1000 = ((allT a0 a1 l4 l5 l6 first).filter (fun x => decide (x < upt))).take 1000 := by
    rw [expV_first e, cutC_zero, if_neg (by omega), okB_none]; rfl
  simp only [hE] at hk hu ⊢
  rw [expV_first e', cutC_zero, if_neg (by omega), show (1000 : Int).toNat = 1000 from rfl]
  have hs : Srt ((allT a0 a1 l4 l5 l6 first).filter (fun x => decide (x < upt))) := (allT_srt a0 a1 l4 l5 l6 first).filter _
  have hF : (allT a0 a1 l4 l5 l6 first).filter (okB upt ((((allT a0 a1 l4 l5 l6 first).filter (fun x => decide (x < upt))).take 1000)[k])) = ((allT a0 a1 l4 l5 l6 first).filter (fun x => decide (x < upt))).filter (fun x => decide (x ≤ (((allT a0 a1 l4 l5 l6 first).filter (fun x => decide (x < upt))).take 1000)[k])) := by
    rw [List.filter_filter]
    refine List.filter_congr (fun t _ => ?_)
    unfold okB
    rw [beq_eq_false_iff_ne.mpr hu, Bool.false_or, Bool.and_comm]
  rw [hF]
  generalize hL : (allT a0 a1 l4 l5 l6 first).filter (fun x => decide (x < upt)) = L at *
  have hkL : k < L.length := by simp at hk; omega
  simp only [List.getElem_take]
  rw [srt_le_take L k hkL hs, List.take_take, List.take_take]
  congr 1
  omega
structure TimesP (b : Bool) (a0 a1 a2 a3 : Int) (l4 l5 : List Int) (l6 : List S59) (first upt : Int) (L : List Int) : Prop where
  day : ∀ t ∈ L, ∃ d, first / 86400 ≤ d ∧ d ≤ 2932896 ∧ t = d * 86400 + first % 86400 ∧ hitV a0 a1 l4 l5 l6 (first / 86400) d = true
  lt : ∀ t ∈ L, t < upt
  unt : ∀ t ∈ L, a3 ≠ -1 → t ≤ a3
  head : ∀ t, L[0]? = some t → t = first
  srt : Srt L
  gap : ∀ (i : Nat) (s t : Int), L[i]? = some s → L[i + 1]? = some t → ∀ d, s / 86400 < d → d < t / 86400 → matchV a0 a1 l4 l5 l6 (first / 86400) d = false
  cnt : 0 < a2 → (L.length : Int) ≤ a2
theorem times_pure {b : Bool} {a0 a1 a2 a3 : Int} {l4 l5 : List Int} {l6 : List S59} {first upt most : Int} (e : expE b first first upt most = 0) :
    TimesP b a0 a1 a2 a3 l4 l5 l6 first upt (expV b a0 a1 a2 a3 l4 l5 l6 first first upt most) := by
  obtain ⟨-, ⟨f0, f1⟩, -, ⟨u0, u1⟩, -, m0, m1⟩ := expE_zero e
  rw [expV_first e]
  have hsT := allT_srt a0 a1 l4 l5 l6 first
  have hsF := hsT.filter (okB upt a3)
  have hsC := cutC_srt a2 hsF
  have hmem : ∀ t ∈ (cutC a2 0 ((allT a0 a1 l4 l5 l6 first).filter (okB upt a3))).take most.toNat, t ∈ allT a0 a1 l4 l5 l6 first ∧ okB upt a3 t = true := fun t ht => by
    have := List.mem_filter.mp (cutC_mem (List.mem_of_mem_take ht))
    exact this
  have hlow : ∀ s t, s ∈ allT a0 a1 l4 l5 l6 first → t ∈ (cutC a2 0 ((allT a0 a1 l4 l5 l6 first).filter (okB upt a3))).take most.toNat → s < t → s ∈ (cutC a2 0 ((allT a0 a1 l4 l5 l6 first).filter (okB upt a3))).take most.toNat := by
    intro s t hs ht hst
    have hsf : s ∈ (allT a0 a1 l4 l5 l6 first).filter (okB upt a3) := List.mem_filter.mpr ⟨hs, okB_lower (hmem t ht).2 hst⟩
    refine srt_lower _ _ s t hsC ?_ ht hst
    have htc := List.mem_of_mem_take ht
    rw [cutC_zero] at htc ⊢
    split
    · rename_i h0
      rw [if_pos h0] at htc
      exact srt_lower _ _ s t hsF hsf htc hst
    · exact hsf
  have hsL := List.Pairwise.take (i := most.toNat) hsC
  refine ⟨fun t ht => ?_, fun t ht => ?_, fun t ht h3 => ?_, fun t ht => ?_, hsL, ?_, fun h0 => ?_⟩
  · obtain ⟨d, h1, h2, h3, h4⟩ := allT_mem.mp (hmem t ht).1
    exact ⟨d, h1, h2, h4, h3⟩
  · have := (hmem t ht).2
    unfold okB at this
    simp only [Bool.and_eq_true, decide_eq_true_eq] at this
    exact this.1
  · have := (hmem t ht).2
    unfold okB at this
    simp only [Bool.and_eq_true, Bool.or_eq_true, beq_iff_eq, decide_eq_true_eq] at this
    exact this.2.resolve_left h3
  · have htm := List.mem_of_getElem? ht
    have hff : first ∈ allT a0 a1 l4 l5 l6 first := allT_mem.mpr ⟨first / 86400, Int.le_refl _, by omega, by unfold hitV; simp, by omega⟩
    have hge := allT_first (hmem t htm).1
    rcases Int.lt_or_le first t with hlt | hle
    · exfalso
      have hfl := hlow first t hff htm hlt
      obtain ⟨i, hi, hie⟩ := List.mem_iff_getElem.mp hfl
      obtain ⟨h0, h0e⟩ := List.getElem?_eq_some_iff.mp ht
      rcases Nat.eq_zero_or_pos i with rfl | hip
      · omega
      · have := List.pairwise_iff_getElem.mp hsL 0 i h0 hi hip
        omega
    · omega
  · intro i s t hs ht d hd1 hd2
    cases hm : matchV a0 a1 l4 l5 l6 (first / 86400) d with
    | false => rfl
    | true =>
      exfalso
      obtain ⟨hi, hie⟩ := List.getElem?_eq_some_iff.mp hs
      obtain ⟨hj, hje⟩ := List.getElem?_eq_some_iff.mp ht
      have hsm := List.mem_of_getElem? hs
      have htm := List.mem_of_getElem? ht
      obtain ⟨ds, p1, p2, _, p4⟩ := allT_mem.mp (hmem s hsm).1
      obtain ⟨dt, q1, q2, _, q4⟩ := allT_mem.mp (hmem t htm).1
      have hdT : d * 86400 + first % 86400 ∈ allT a0 a1 l4 l5 l6 first := allT_mem.mpr ⟨d, by omega, by omega, by unfold hitV; rw [hm]; simp, rfl⟩
      have hdl := hlow _ t hdT htm (by omega)
      obtain ⟨j, hjl, hjv⟩ := List.mem_iff_getElem.mp hdl
      have c1 : i < j := by
        rcases Nat.lt_trichotomy i j with h | h | h
        · exact h
        · subst h; omega
        · have := List.pairwise_iff_getElem.mp hsL j i hjl hi h; omega
      have c2 : j < i + 1 := by
        rcases Nat.lt_trichotomy j (i + 1) with h | h | h
        · exact h
        · subst h; omega
        · have := List.pairwise_iff_getElem.mp hsL (i + 1) j hj hjl h; omega
      omega
  · rw [cutC_zero, if_pos h0]
    simp
    omega
end Go.Proofs.YtfbmjonhohebiaaGreatDoor
end
section
set_option linter.unusedVariables false
set_option linter.unusedSimpArgs false
namespace Go.Proofs.YtfbmjonhohebiaaGreatDoor
open Go.RowKit Go.Proofs.YtfbmjonhohebiaaGreatDoorW.PrintWords Go.Proofs.YtfbmjonhohebiaaGreatDoorW.PrintLast Go.Proofs.YtfbmjonhohebiaaGreatDoorW.PrintMore PRecurExpands
theorem C_take {w : World} {A : Option Addr} {n k : Nat} {xs : List Int} (h : Kd.C (Kd.int .i64) w A n xs) (hk : k ≤ n) : Kd.C (Kd.int .i64) w A k (xs.take k) := by
  obtain ⟨h1, h2, h3⟩ := h
  refine ⟨by simp; omega, by omega, fun hp => ?_⟩
  obtain ⟨ad, e, hc⟩ := h3 (by omega)
  refine ⟨ad, e, fun j p hj => hc j p ?_⟩
  rw [List.getElem?_take] at hj
  split at hj
  · exact hj
  · cases hj
theorem times_c2 {l : List Int} {A B : Option Addr} {n m c d : Nat} {w : World} (hn : n = l.length) (hm : m = l.length) (hl : l.length ≤ 1000000000) (hA : Kd.C (Kd.int .i64) w A l.length l) (hc : l.length ≤ c) (hB : Kd.C (Kd.int .i64) w B l.length l) (hd : l.length ≤ d) :
    Calls Tryz.prog 18 #[.slice A n c, .slice B m d] w fun e w' => e = .returned (.bool true) ∧ Below w.heap.size w w' := by
  subst hn hm
  exact times_c hl hA hc hB hd
set_option maxRecDepth 100000 in
set_option maxHeartbeats 4000000 in
theorem law_windows {G : World → Prop} (hA : AliveC G) {a0 a1 a2 a3 : Int} {A4 A5 A6 : Option Addr} {c4 c5 c6 : Nat} {l4 l5 : List Int} {l6 : List S59} {w : World} (h : Lists w A4 A5 A6 c4 c5 c6 l4 l5 l6) (m4 : l4.length ≤ maxLen) (m5 : l5.length ≤ maxLen) (hl : (l4.length + l5.length : Int) ≤ 9223372036854775807)
    (first frm mid upt : Int) (hf0 : -9223372036854775808 ≤ first) (hu : upt ≤ 9223372036854775807) (hg : G w) :
    Calls Tryz.prog 6 #[.agg #[.int .i64 a0, .int .i64 a1, .int .i64 a2, .int .i64 a3, .slice A4 l4.length c4, .slice A5 l5.length c5, .slice A6 l6.length c6], .int .i64 first, .int .i64 frm, .int .i64 mid, .int .i64 upt] w fun e w' =>
      e = .returned (.bool true) ∧ Below w.heap.size w w' := by
  have HL := Aside0.mk h
  have HG := Aside0.mk hg
  have HA := Aside0.mk hA
  have HF : Aside0 (-9223372036854775808 ≤ first ∧ upt ≤ 9223372036854775807) := ⟨⟨hf0, hu⟩⟩
  clear h hg hA hf0 hu
  have HB := Aside0.mk ((Below.refl w.heap.size w).alloc (Nat.le_refl _) (.cells #[.int .i64 a0, .int .i64 a1, .int .i64 a2, .int .i64 a3, .slice A4 l4.length c4, .slice A5 l5.length c5, .slice A6 l6.length c6] 25))
  have hz : w.heap.size < (w.alloc (.cells #[.int .i64 a0, .int .i64 a1, .int .i64 a2, .int .i64 a3, .slice A4 l4.length c4, .slice A5 l5.length c5, .slice A6 l6.length c6] 25)).heap.size := by simp
  have HM : Aside0 (l4.length ≤ maxLen ∧ l5.length ≤ maxLen ∧ (l4.length + l5.length : Int) ≤ 9223372036854775807) := ⟨⟨m4, m5, hl⟩⟩
  clear m4 m5 hl
  obtain ⟨b, HBB⟩ : ∃ b : Bool, Aside0 (b = true ↔ RightP a0 a1 a2 a3 l4 l5 l6) := by
    classical
    exact ⟨decide (RightP a0 a1 a2 a3 l4 l5 l6), ⟨by simp⟩⟩
  by_cases hgr : greatB l4 l5 l6 = true
  · go_enter Tryz.func6, Tryz.ntmps6
    go_wp2_with (first
      | (go_at_call 10; refine (great_c (HL.out.below HB.out) HM.out.1 HM.out.2.1 HM.out.2.2).mono ?_; rintro e w2 ⟨rfl, hb2⟩; obtain ⟨hc2, hf2⟩ := bcell hb2; have hz : w.heap.size < w2.heap.size := Nat.lt_of_lt_of_le hz hb2.size; have HB' := Aside0.mk (HB.out.trans (hb2.mono HB.out.size)); clear HB hb2; have HB := HB'; clear HB')
      | (go_at_call 11; refine (HA.out.calls (HA.out.mono HG.out HB.out)).mono ?_; rintro e w2 ⟨rfl, hb2⟩; obtain ⟨hc2, hf2⟩ := bcell hb2; have hz : w.heap.size < w2.heap.size := Nat.lt_of_lt_of_le hz hb2.size; have HB' := Aside0.mk (HB.out.trans (hb2.mono HB.out.size)); clear HB hb2; have HB := HB'; clear HB'))
    go_ret
    exact ⟨rfl, HB.out⟩
  have hgr' : greatB l4 l5 l6 = false := by simpa using hgr
  clear hgr
  obtain ⟨g4, g5, g6⟩ := greatB_len hgr'
  by_cases hfr : farB first upt = true
  · go_enter Tryz.func6, Tryz.ntmps6
    go_wp2_with (first
      | (go_at_call 10; refine (great_c (HL.out.below HB.out) HM.out.1 HM.out.2.1 HM.out.2.2).mono ?_; rintro e w2 ⟨rfl, hb2⟩; obtain ⟨hc2, hf2⟩ := bcell hb2; have hz : w.heap.size < w2.heap.size := Nat.lt_of_lt_of_le hz hb2.size; have HB' := Aside0.mk (HB.out.trans (hb2.mono HB.out.size)); clear HB hb2; have HB := HB'; clear HB')
      | (go_at_call 15; refine (far_c first upt _ HF.out.1 HF.out.2).mono ?_; rintro e w2 ⟨rfl, hb2⟩; obtain ⟨hc2, hf2⟩ := bcell hb2; have hz : w.heap.size < w2.heap.size := Nat.lt_of_lt_of_le hz hb2.size; have HB' := Aside0.mk (HB.out.trans (hb2.mono HB.out.size)); clear HB hb2; have HB := HB'; clear HB')
      | (go_at_call 11; refine (HA.out.calls (HA.out.mono HG.out HB.out)).mono ?_; rintro e w2 ⟨rfl, hb2⟩; obtain ⟨hc2, hf2⟩ := bcell hb2; have hz : w.heap.size < w2.heap.size := Nat.lt_of_lt_of_le hz hb2.size; have HB' := Aside0.mk (HB.out.trans (hb2.mono HB.out.size)); clear HB hb2; have HB := HB'; clear HB'))
    go_ret
    exact ⟨rfl, HB.out⟩
  have hfr' : farB first upt = false := by simpa using hfr
  clear hfr
  by_cases q1 : mid < frm
  · go_enter Tryz.func6, Tryz.ntmps6
    go_wp2_with (first
      | (go_at_call 10; refine (great_c (HL.out.below HB.out) HM.out.1 HM.out.2.1 HM.out.2.2).mono ?_; rintro e w2 ⟨rfl, hb2⟩; obtain ⟨hc2, hf2⟩ := bcell hb2; have hz : w.heap.size < w2.heap.size := Nat.lt_of_lt_of_le hz hb2.size; have HB' := Aside0.mk (HB.out.trans (hb2.mono HB.out.size)); clear HB hb2; have HB := HB'; clear HB')
      | (go_at_call 15; refine (far_c first upt _ HF.out.1 HF.out.2).mono ?_; rintro e w2 ⟨rfl, hb2⟩; obtain ⟨hc2, hf2⟩ := bcell hb2; have hz : w.heap.size < w2.heap.size := Nat.lt_of_lt_of_le hz hb2.size; have HB' := Aside0.mk (HB.out.trans (hb2.mono HB.out.size)); clear HB hb2; have HB := HB'; clear HB')
      | (go_at_call 11; refine (HA.out.calls (HA.out.mono HG.out HB.out)).mono ?_; rintro e w2 ⟨rfl, hb2⟩; obtain ⟨hc2, hf2⟩ := bcell hb2; have hz : w.heap.size < w2.heap.size := Nat.lt_of_lt_of_le hz hb2.size; have HB' := Aside0.mk (HB.out.trans (hb2.mono HB.out.size)); clear HB hb2; have HB := HB'; clear HB'))
    go_ret
    exact ⟨rfl, HB.out⟩
  by_cases q2 : upt < mid
  · go_enter Tryz.func6, Tryz.ntmps6
    go_wp2_with (first
      | (go_at_call 10; refine (great_c (HL.out.below HB.out) HM.out.1 HM.out.2.1 HM.out.2.2).mono ?_; rintro e w2 ⟨rfl, hb2⟩; obtain ⟨hc2, hf2⟩ := bcell hb2; have hz : w.heap.size < w2.heap.size := Nat.lt_of_lt_of_le hz hb2.size; have HB' := Aside0.mk (HB.out.trans (hb2.mono HB.out.size)); clear HB hb2; have HB := HB'; clear HB')
      | (go_at_call 15; refine (far_c first upt _ HF.out.1 HF.out.2).mono ?_; rintro e w2 ⟨rfl, hb2⟩; obtain ⟨hc2, hf2⟩ := bcell hb2; have hz : w.heap.size < w2.heap.size := Nat.lt_of_lt_of_le hz hb2.size; have HB' := Aside0.mk (HB.out.trans (hb2.mono HB.out.size)); clear HB hb2; have HB := HB'; clear HB')
      | (go_at_call 11; refine (HA.out.calls (HA.out.mono HG.out HB.out)).mono ?_; rintro e w2 ⟨rfl, hb2⟩; obtain ⟨hc2, hf2⟩ := bcell hb2; have hz : w.heap.size < w2.heap.size := Nat.lt_of_lt_of_le hz hb2.size; have HB' := Aside0.mk (HB.out.trans (hb2.mono HB.out.size)); clear HB hb2; have HB := HB'; clear HB'))
    go_ret
    exact ⟨rfl, HB.out⟩
  have r1 : frm ≤ mid := by omega
  have r2 : mid ≤ upt := by omega
  clear q1 q2
  by_cases n1 : expE b first frm upt 1000 = 0
  · by_cases n2 : expE b first frm mid 1000 = 0
    · by_cases n3 : expE b first mid upt 1000 = 0
      · have HW := Lib.hid (win_pure (a0 := a0) (a1 := a1) (a2 := a2) (a3 := a3) (l4 := l4) (l5 := l5) (l6 := l6) n1 n2 n3 r1 r2)
        go_enter Tryz.func6, Tryz.ntmps6
        go_wp2_with (first
          | (go_at_call 10; refine (great_c (HL.out.below HB.out) HM.out.1 HM.out.2.1 HM.out.2.2).mono ?_; rintro e w2 ⟨rfl, hb2⟩; obtain ⟨hc2, hf2⟩ := bcell hb2; have hz : w.heap.size < w2.heap.size := Nat.lt_of_lt_of_le hz hb2.size; have HB' := Aside0.mk (HB.out.trans (hb2.mono HB.out.size)); clear HB hb2; have HB := HB'; clear HB')
          | (go_at_call 15; refine (far_c first upt _ HF.out.1 HF.out.2).mono ?_; rintro e w2 ⟨rfl, hb2⟩; obtain ⟨hc2, hf2⟩ := bcell hb2; have hz : w.heap.size < w2.heap.size := Nat.lt_of_lt_of_le hz hb2.size; have HB' := Aside0.mk (HB.out.trans (hb2.mono HB.out.size)); clear HB hb2; have HB := HB'; clear HB'))
        refine (rec_expand_c HBB.out (HL.out.below HB.out) (by omega) (by omega) (by omega)).mono ?_
        rintro e wa ⟨La, Aa, ca, HLa, rfl, HCa, hb2⟩
        obtain ⟨hca, hfa⟩ := bcell hb2
        have hz : w.heap.size < wa.heap.size := Nat.lt_of_lt_of_le hz hb2.size
        have HB' := Aside0.mk (HB.out.trans (hb2.mono HB.out.size))
        clear HB hb2
        have HB := HB'
        clear HB'
        go_wp2_with fail
        refine (rec_expand_c HBB.out (HL.out.below HB.out) (by omega) (by omega) (by omega)).mono ?_
        rintro e wb ⟨Lb, Ab, cb, HLb, rfl, HCb, hb2⟩
        obtain ⟨hcb, hfb⟩ := bcell hb2
        have hz : w.heap.size < wb.heap.size := Nat.lt_of_lt_of_le hz hb2.size
        have HB' := Aside0.mk (HB.out.trans (hb2.mono HB.out.size))
        have HCa' := Aside0.mk (And.intro (Kd.C_below HCa.out.1 hb2) HCa.out.2)
        clear HB hb2
        clear HCa
        have HB := HB'
        clear HB'
        have HCa := HCa'
        clear HCa'
        go_wp2_with fail
        refine (rec_expand_c HBB.out (HL.out.below HB.out) (by omega) (by omega) (by omega)).mono ?_
        rintro e wc ⟨Lc, Ac, cc, HLc, rfl, HCc, hb2⟩
        obtain ⟨hcc, hfc⟩ := bcell hb2
        have hz : w.heap.size < wc.heap.size := Nat.lt_of_lt_of_le hz hb2.size
        have HB' := Aside0.mk (HB.out.trans (hb2.mono HB.out.size))
        have HCa' := Aside0.mk (And.intro (Kd.C_below HCa.out.1 hb2) HCa.out.2)
        have HCb' := Aside0.mk (And.intro (Kd.C_below HCb.out.1 hb2) HCb.out.2)
        clear HB hb2
        clear HCa
        clear HCb
        have HB := HB'
        clear HB'
        have HCa := HCa'
        have HCb := HCb'
        clear HCa'
        clear HCb'
        have la1 : La.length ≤ 1000 := by rw [HLa.out]; exact expV_len _ _ _ _ _ _ _ _ _ _ _ _
        have la2 : Lb.length ≤ 1000 := by rw [HLb.out]; exact expV_len _ _ _ _ _ _ _ _ _ _ _ _
        have la3 : Lc.length ≤ 1000 := by rw [HLc.out]; exact expV_len _ _ _ _ _ _ _ _ _ _ _ _
        have hWW : La = (Lb ++ Lc).take 1000 := by rw [HLa.out, HLb.out, HLc.out]; exact HW.out
        have HWW := Lib.hid hWW
        clear hWW HW HLa HLb HLc
        go_wp2_with (first
          | (at_builtin; refine Kd.R_append_row (fun x : Int => .int .i64 x) (0 : Int) (h1 := fun _ => rfl) (w0 := w) w.heap.size rfl (.tmp 71) (.tmp 72) 38 2 (.int .i64 0) 8 rfl Tryz.underlying38 info2 rfl (by decide) (.slice none 0 0) [] Lb Ab Lb.length cb (fun _ => True) rfl rfl (fun _ _ => trivial) (Kd.R_nil _ _ _ _ _) HCb.out.1 HB.out HB.out.size (by simp; omega) ?_; intro v1 w6 ho1 hb6 hg6 hat6; simp only [List.nil_append] at ho1; have hbW6 : Below wc.heap.size wc w6 := (Below.refl _ _).grown hg6 (Nat.le_refl _) (by simp [Value.ownBlock]); have HC6 := Aside0.mk (Kd.C_below HCc.out.1 hbW6); have HO1 := Aside0.mk ho1; have HB6 := Aside0.mk hb6; have HW6 := Aside0.mk hbW6; have HT6 := Aside0.mk hat6; clear ho1 hb6 hbW6 hat6 hg6)
          | (at_builtin; refine Kd.R_append_row (fun x : Int => .int .i64 x) (0 : Int) (h1 := fun _ => rfl) (w0 := w) w.heap.size rfl (.tmp 74) (.tmp 75) 38 2 (.int .i64 0) 8 rfl Tryz.underlying38 info2 rfl (by decide) v1 Lb Lc Ac Lc.length cc (fun _ => True) rfl rfl (fun _ _ => trivial) HO1.out HC6.out HB6.out HB6.out.size (by omega) ?_; intro v2 w7 ho2 hb7 hg7 hat7
             have hbW7 : Below wc.heap.size wc w7 := HW6.out.grown hg7 HW6.out.size (fun k hk => by
               rcases HT6.out with e | ⟨q, e, hq⟩
               · rw [e] at hk; simp [Value.ownBlock] at hk
               · rw [e] at hk; injection hk; omega)
             obtain ⟨LL, hLL⟩ : ∃ LL, LL = Lb ++ Lc := ⟨_, rfl⟩
             have hll : LL.length ≤ 2000 := by rw [hLL]; simp; omega
             rw [← hLL] at ho2
             have hWW := HWW.out
             rw [← hLL] at hWW
             obtain ⟨Av, cv, ev, hcv, hCv⟩ := Kd.R_reads ho2
             subst ev
             have HWL := Lib.hid hWW
             have HCv := Aside0.mk hCv
             have HCa7 := Aside0.mk (Kd.C_below HCa.out.1 hbW7)
             clear HB
             have HB := Aside0.mk hb7
             clear hLL hWW hCv ho2 hb7 hg7 hat7 HWW hbW7 HC6 HO1 HB6 HW6 HT6)
          | (go_at_call 11; refine (HA.out.calls (HA.out.mono HG.out HB.out)).mono ?_; rintro e w2 ⟨rfl, hb2⟩; have HCa' := Aside0.mk (Kd.C_below HCa7.out hb2); have HCv' := Aside0.mk (Kd.C_below HCv.out hb2); have HB' := Aside0.mk (HB.out.trans (hb2.mono HB.out.size)); clear HB hb2; have HB := HB'; clear HB'))
        · have hlong : 1000 < LL.length := by first | assumption | omega
          refine (times_c2 (l := La) rfl (by rw [HWL.out]; simp; omega) (by omega) HCa'.out HCa.out.2 (by have h1 := HWL.out; have h2 := C_take HCv'.out (k := 1000) (by omega); rw [show La.length = 1000 from by rw [h1]; simp; omega, h1]; exact h2) (by omega)).mono ?_
          rintro e w8 ⟨rfl, hb8⟩
          go_wp2_with fail
          go_ret
          exact ⟨ret_bool (by simp), HB.out.trans (hb8.mono HB.out.size)⟩
        · have hshort : LL.length ≤ 1000 := by first | assumption | omega
          have hLe : La = LL := by rw [HWL.out]; exact List.take_of_length_le (by omega)
          have HLe := Lib.hid hLe
          clear hLe
          refine (times_c2 (l := La) rfl (by rw [HLe.out]) (by omega) HCa'.out HCa.out.2 (by rw [HLe.out]; exact HCv'.out) (by rw [HLe.out]; exact hcv)).mono ?_
          rintro e w8 ⟨rfl, hb8⟩
          go_wp2_with fail
          go_ret
          exact ⟨ret_bool (by simp), HB.out.trans (hb8.mono HB.out.size)⟩
      · have hne : (expE b first mid upt 1000 != 0) = true := bne_iff_ne.mpr n3
        go_enter Tryz.func6, Tryz.ntmps6
        go_wp2_with (first
          | (go_at_call 10; refine (great_c (HL.out.below HB.out) HM.out.1 HM.out.2.1 HM.out.2.2).mono ?_; rintro e w2 ⟨rfl, hb2⟩; obtain ⟨hc2, hf2⟩ := bcell hb2; have hz : w.heap.size < w2.heap.size := Nat.lt_of_lt_of_le hz hb2.size; have HB' := Aside0.mk (HB.out.trans (hb2.mono HB.out.size)); clear HB hb2; have HB := HB'; clear HB')
          | (go_at_call 15; refine (far_c first upt _ HF.out.1 HF.out.2).mono ?_; rintro e w2 ⟨rfl, hb2⟩; obtain ⟨hc2, hf2⟩ := bcell hb2; have hz : w.heap.size < w2.heap.size := Nat.lt_of_lt_of_le hz hb2.size; have HB' := Aside0.mk (HB.out.trans (hb2.mono HB.out.size)); clear HB hb2; have HB := HB'; clear HB'))
        refine (rec_expand_c HBB.out (HL.out.below HB.out) (by omega) (by omega) (by omega)).mono ?_
        rintro e wa ⟨La, Aa, ca, HLa, rfl, HCa, hb2⟩
        obtain ⟨hca, hfa⟩ := bcell hb2
        have hz : w.heap.size < wa.heap.size := Nat.lt_of_lt_of_le hz hb2.size
        have HB' := Aside0.mk (HB.out.trans (hb2.mono HB.out.size))
        clear HB hb2
        have HB := HB'
        clear HB'
        go_wp2_with fail
        refine (rec_expand_c HBB.out (HL.out.below HB.out) (by omega) (by omega) (by omega)).mono ?_
        rintro e wb ⟨Lb, Ab, cb, HLb, rfl, HCb, hb2⟩
        obtain ⟨hcb, hfb⟩ := bcell hb2
        have hz : w.heap.size < wb.heap.size := Nat.lt_of_lt_of_le hz hb2.size
        have HB' := Aside0.mk (HB.out.trans (hb2.mono HB.out.size))
        have HCa' := Aside0.mk (And.intro (Kd.C_below HCa.out.1 hb2) HCa.out.2)
        clear HB hb2
        clear HCa
        have HB := HB'
        clear HB'
        have HCa := HCa'
        clear HCa'
        go_wp2_with fail
        refine (rec_expand_c HBB.out (HL.out.below HB.out) (by omega) (by omega) (by omega)).mono ?_
        rintro e wc ⟨Lc, Ac, cc, HLc, rfl, HCc, hb2⟩
        obtain ⟨hcc, hfc⟩ := bcell hb2
        have hz : w.heap.size < wc.heap.size := Nat.lt_of_lt_of_le hz hb2.size
        have HB' := Aside0.mk (HB.out.trans (hb2.mono HB.out.size))
        have HCa' := Aside0.mk (And.intro (Kd.C_below HCa.out.1 hb2) HCa.out.2)
        have HCb' := Aside0.mk (And.intro (Kd.C_below HCb.out.1 hb2) HCb.out.2)
        clear HB hb2
        clear HCa
        clear HCb
        have HB := HB'
        clear HB'
        have HCa := HCa'
        have HCb := HCb'
        clear HCa'
        clear HCb'
        go_wp2_with (go_at_call 11; refine (HA.out.calls (HA.out.mono HG.out HB.out)).mono ?_; rintro e w2 ⟨rfl, hb2⟩; obtain ⟨hc2, hf2⟩ := bcell hb2; have hz : w.heap.size < w2.heap.size := Nat.lt_of_lt_of_le hz hb2.size; have HB' := Aside0.mk (HB.out.trans (hb2.mono HB.out.size)); clear HB hb2; have HB := HB'; clear HB')
        go_ret
        exact ⟨rfl, HB.out⟩
    · have hne : (expE b first frm mid 1000 != 0) = true := bne_iff_ne.mpr n2
      go_enter Tryz.func6, Tryz.ntmps6
      go_wp2_with (first
        | (go_at_call 10; refine (great_c (HL.out.below HB.out) HM.out.1 HM.out.2.1 HM.out.2.2).mono ?_; rintro e w2 ⟨rfl, hb2⟩; obtain ⟨hc2, hf2⟩ := bcell hb2; have hz : w.heap.size < w2.heap.size := Nat.lt_of_lt_of_le hz hb2.size; have HB' := Aside0.mk (HB.out.trans (hb2.mono HB.out.size)); clear HB hb2; have HB := HB'; clear HB')
        | (go_at_call 15; refine (far_c first upt _ HF.out.1 HF.out.2).mono ?_; rintro e w2 ⟨rfl, hb2⟩; obtain ⟨hc2, hf2⟩ := bcell hb2; have hz : w.heap.size < w2.heap.size := Nat.lt_of_lt_of_le hz hb2.size; have HB' := Aside0.mk (HB.out.trans (hb2.mono HB.out.size)); clear HB hb2; have HB := HB'; clear HB'))
      refine (rec_expand_c HBB.out (HL.out.below HB.out) (by omega) (by omega) (by omega)).mono ?_
      rintro e wa ⟨La, Aa, ca, HLa, rfl, HCa, hb2⟩
      obtain ⟨hca, hfa⟩ := bcell hb2
      have hz : w.heap.size < wa.heap.size := Nat.lt_of_lt_of_le hz hb2.size
      have HB' := Aside0.mk (HB.out.trans (hb2.mono HB.out.size))
      clear HB hb2
      have HB := HB'
      clear HB'
      go_wp2_with fail
      refine (rec_expand_c HBB.out (HL.out.below HB.out) (by omega) (by omega) (by omega)).mono ?_
      rintro e wb ⟨Lb, Ab, cb, HLb, rfl, HCb, hb2⟩
      obtain ⟨hcb, hfb⟩ := bcell hb2
      have hz : w.heap.size < wb.heap.size := Nat.lt_of_lt_of_le hz hb2.size
      have HB' := Aside0.mk (HB.out.trans (hb2.mono HB.out.size))
      have HCa' := Aside0.mk (And.intro (Kd.C_below HCa.out.1 hb2) HCa.out.2)
      clear HB hb2
      clear HCa
      have HB := HB'
      clear HB'
      have HCa := HCa'
      clear HCa'
      go_wp2_with fail
      refine (rec_expand_c HBB.out (HL.out.below HB.out) (by omega) (by omega) (by omega)).mono ?_
      rintro e wc ⟨Lc, Ac, cc, HLc, rfl, HCc, hb2⟩
      obtain ⟨hcc, hfc⟩ := bcell hb2
      have hz : w.heap.size < wc.heap.size := Nat.lt_of_lt_of_le hz hb2.size
      have HB' := Aside0.mk (HB.out.trans (hb2.mono HB.out.size))
      have HCa' := Aside0.mk (And.intro (Kd.C_below HCa.out.1 hb2) HCa.out.2)
      have HCb' := Aside0.mk (And.intro (Kd.C_below HCb.out.1 hb2) HCb.out.2)
      clear HB hb2
      clear HCa
      clear HCb
      have HB := HB'
      clear HB'
      have HCa := HCa'
      have HCb := HCb'
      clear HCa'
      clear HCb'
      go_wp2_with (go_at_call 11; refine (HA.out.calls (HA.out.mono HG.out HB.out)).mono ?_; rintro e w2 ⟨rfl, hb2⟩; obtain ⟨hc2, hf2⟩ := bcell hb2; have hz : w.heap.size < w2.heap.size := Nat.lt_of_lt_of_le hz hb2.size; have HB' := Aside0.mk (HB.out.trans (hb2.mono HB.out.size)); clear HB hb2; have HB := HB'; clear HB')
      go_ret
      exact ⟨rfl, HB.out⟩
  · have hne : (expE b first frm upt 1000 != 0) = true := bne_iff_ne.mpr n1
    go_enter Tryz.func6, Tryz.ntmps6
    go_wp2_with (first
      | (go_at_call 10; refine (great_c (HL.out.below HB.out) HM.out.1 HM.out.2.1 HM.out.2.2).mono ?_; rintro e w2 ⟨rfl, hb2⟩; obtain ⟨hc2, hf2⟩ := bcell hb2; have hz : w.heap.size < w2.heap.size := Nat.lt_of_lt_of_le hz hb2.size; have HB' := Aside0.mk (HB.out.trans (hb2.mono HB.out.size)); clear HB hb2; have HB := HB'; clear HB')
      | (go_at_call 15; refine (far_c first upt _ HF.out.1 HF.out.2).mono ?_; rintro e w2 ⟨rfl, hb2⟩; obtain ⟨hc2, hf2⟩ := bcell hb2; have hz : w.heap.size < w2.heap.size := Nat.lt_of_lt_of_le hz hb2.size; have HB' := Aside0.mk (HB.out.trans (hb2.mono HB.out.size)); clear HB hb2; have HB := HB'; clear HB'))
    refine (rec_expand_c HBB.out (HL.out.below HB.out) (by omega) (by omega) (by omega)).mono ?_
    rintro e wa ⟨La, Aa, ca, HLa, rfl, HCa, hb2⟩
    obtain ⟨hca, hfa⟩ := bcell hb2
    have hz : w.heap.size < wa.heap.size := Nat.lt_of_lt_of_le hz hb2.size
    have HB' := Aside0.mk (HB.out.trans (hb2.mono HB.out.size))
    clear HB hb2
    have HB := HB'
    clear HB'
    go_wp2_with fail
    refine (rec_expand_c HBB.out (HL.out.below HB.out) (by omega) (by omega) (by omega)).mono ?_
    rintro e wb ⟨Lb, Ab, cb, HLb, rfl, HCb, hb2⟩
    obtain ⟨hcb, hfb⟩ := bcell hb2
    have hz : w.heap.size < wb.heap.size := Nat.lt_of_lt_of_le hz hb2.size
    have HB' := Aside0.mk (HB.out.trans (hb2.mono HB.out.size))
    have HCa' := Aside0.mk (And.intro (Kd.C_below HCa.out.1 hb2) HCa.out.2)
    clear HB hb2
    clear HCa
    have HB := HB'
    clear HB'
    have HCa := HCa'
    clear HCa'
    go_wp2_with fail
    refine (rec_expand_c HBB.out (HL.out.below HB.out) (by omega) (by omega) (by omega)).mono ?_
    rintro e wc ⟨Lc, Ac, cc, HLc, rfl, HCc, hb2⟩
    obtain ⟨hcc, hfc⟩ := bcell hb2
    have hz : w.heap.size < wc.heap.size := Nat.lt_of_lt_of_le hz hb2.size
    have HB' := Aside0.mk (HB.out.trans (hb2.mono HB.out.size))
    have HCa' := Aside0.mk (And.intro (Kd.C_below HCa.out.1 hb2) HCa.out.2)
    have HCb' := Aside0.mk (And.intro (Kd.C_below HCb.out.1 hb2) HCb.out.2)
    clear HB hb2
    clear HCa
    clear HCb
    have HB := HB'
    clear HB'
    have HCa := HCa'
    have HCb := HCb'
    clear HCa'
    clear HCb'
    go_wp2_with (go_at_call 11; refine (HA.out.calls (HA.out.mono HG.out HB.out)).mono ?_; rintro e w2 ⟨rfl, hb2⟩; obtain ⟨hc2, hf2⟩ := bcell hb2; have hz : w.heap.size < w2.heap.size := Nat.lt_of_lt_of_le hz hb2.size; have HB' := Aside0.mk (HB.out.trans (hb2.mono HB.out.size)); clear HB hb2; have HB := HB'; clear HB')
    go_ret
    exact ⟨rfl, HB.out⟩
end Go.Proofs.YtfbmjonhohebiaaGreatDoor
end
section
set_option linter.unusedVariables false
set_option linter.unusedSimpArgs false
namespace Go.Proofs.YtfbmjonhohebiaaGreatDoor
open Go.RowKit Go.Joins Go.ChangeShapes Go.WideShapes Go.Deep Go.Proofs.YtfbmjonhohebiaaGreatDoorW.PrintWords Go.Proofs.YtfbmjonhohebiaaGreatDoorW.PrintLast Go.Proofs.YtfbmjonhohebiaaGreatDoorW.PrintMore PRecurExpands
section
variable {H : Type} {enc : TypeId × Value → H} {P : Program} {w : World} {base : Nat} {held : Bool}
theorem open_agg7 {spare : Nat → Bool} {r : Reach} {b0 : Nat} {t : TypeId} {f0 f1 f2 f3 f4 f5 f6 : Field} {v : Value} {d : DataW H} {p : List MemPlace} (hs : P.underlying t = some (.struct #[f0, f1, f2, f3, f4, f5, f6])) (hone : oneCellFields P #[f0, f1, f2, f3, f4, f5, f6] = true) (hC : P.cellsOf t = 7)
    (hv : Value.okWide P w r b0 t v) (h : DataW.Trod enc P w base spare held t v d p) :
    ∃ (v0 v1 v2 v3 v4 v5 v6 : Value) (y0 y1 y2 y3 y4 y5 y6 : DataW H × List MemPlace) (n : Nat), v = .agg #[v0, v1, v2, v3, v4, v5, v6] ∧ d = .agg [y0.1, y1.1, y2.1, y3.1, y4.1, y5.1, y6.1] ∧
      DataW.trod enc P w base spare held n f0.type [v0] = some y0 ∧ DataW.trod enc P w base spare held n f1.type [v1] = some y1 ∧ DataW.trod enc P w base spare held n f2.type [v2] = some y2 ∧ DataW.trod enc P w base spare held n f3.type [v3] = some y3 ∧ DataW.trod enc P w base spare held n f4.type [v4] = some y4 ∧ DataW.trod enc P w base spare held n f5.type [v5] = some y5 ∧ DataW.trod enc P w base spare held n f6.type [v6] = some y6 := by
  obtain ⟨cs, rfl, hsz⟩ := okWide_struct hs hv
  obtain ⟨l⟩ := cs
  match l, hsz.trans hC with
  | [c0, c1, c2, c3, c4, c5, c6], _ =>
    obtain ⟨fuel, hf⟩ := h
    obtain ⟨xs, n, _, hx, _, hlen, hg⟩ := DataW.trod_struct hs hf
    obtain ⟨o0, k0⟩ := hone_of hone 0 f0 rfl
    obtain ⟨o1, k1⟩ := hone_of hone 1 f1 rfl
    obtain ⟨o2, k2⟩ := hone_of hone 2 f2 rfl
    obtain ⟨o3, k3⟩ := hone_of hone 3 f3 rfl
    obtain ⟨o4, k4⟩ := hone_of hone 4 f4 rfl
    obtain ⟨o5, k5⟩ := hone_of hone 5 f5 rfl
    obtain ⟨o6, k6⟩ := hone_of hone 6 f6 rfl
    match xs, hlen with
    | [y0, y1, y2, y3, y4, y5, y6], _ =>
      simp only [Prod.mk.injEq] at hx
      exact ⟨c0, c1, c2, c3, c4, c5, c6, y0, y1, y2, y3, y4, y5, y6, n, rfl, by simpa using hx.1, by simpa [Value.cells, o0, k0] using hg 0 f0 rfl, by simpa [Value.cells, o1, k1] using hg 1 f1 rfl, by simpa [Value.cells, o2, k2] using hg 2 f2 rfl, by simpa [Value.cells, o3, k3] using hg 3 f3 rfl, by simpa [Value.cells, o4, k4] using hg 4 f4 rfl, by simpa [Value.cells, o5, k5] using hg 5 f5 rfl, by simpa [Value.cells, o6, k6] using hg 6 f6 rfl⟩
theorem row_ints {t e : TypeId} {fuel : Nat} {v : Value} {x : DataW H × List MemPlace} (ht : P.underlying t = some (.slice e)) (he : P.underlying e = some (.int .i64)) (hc : P.cellsOf e = 1)
    (h : DataW.trod enc P w base (fun _ => true) held fuel t [v] = some x) :
    ∃ (A : Option Addr) (l : List Int) (c : Nat), v = .slice A l.length c ∧ Kd.C (Kd.int .i64) w A l.length l ∧ l.length ≤ c ∧ l.length ≤ maxLen ∧ ∀ n ∈ l, (Lit.int .i64 n).wf = true := by
  rcases open_ints ht he hc h with ⟨hcs, _⟩ | ⟨a, len, cap, zs, hcs, _, hl, hm, hz, _, hcell, hw⟩
  · simp only [List.cons.injEq, and_true] at hcs
    subst hcs
    exact ⟨none, [], 0, rfl, ⟨rfl, by simp, fun h => absurd h (by simp)⟩, Nat.le_refl _, Nat.zero_le _, fun n hn => by simp at hn⟩
  · simp only [List.cons.injEq, and_true] at hcs
    subst hcs
    obtain ⟨l, rfl, hr, h1, h2, h3⟩ := ReadsInt.ofRowC (.inr ⟨a, rfl, hl, hm, by simpa using hz, hcell, hw⟩)
    exact ⟨some a, l, cap, rfl, Kd.C_of_reads (d := (0 : Int)) (h1 := fun _ => rfl) hr, h3, h1, h2⟩
set_option maxRecDepth 100000 in

theorem row_week {fuel : Nat} {v : Value} {x : DataW H × List MemPlace} {t : TypeId} (ht : Tryz.prog.underlying t = some (.slice 59))
    (h : DataW.trod enc Tryz.prog w base (fun _ => true) held fuel t [v] = some x) :
    ∃ (A : Option Addr) (l : List S59) (c : Nat), v = .slice A l.length c ∧ Kd.C k59 w A l.length l ∧ l.length ≤ c ∧ l.length ≤ maxLen ∧ ∀ x ∈ l, (Lit.int .i64 x.f0).wf = true ∧ (Lit.int .i64 x.f1).wf = true := by
  rcases open_slice ht h with ⟨hcs, _⟩ | ⟨a, len, cap, m, n, D, Pl, hcs, _, hl, hm, hmm, _, hi⟩
  · simp only [List.cons.injEq, and_true] at hcs
    subst hcs
    exact ⟨none, [], 0, rfl, ⟨rfl, by simp, fun h => absurd h (by simp)⟩, Nat.le_refl _, Nat.zero_le _, fun n hn => by simp at hn⟩
  · simp only [List.cons.injEq, and_true] at hcs
    subst hcs
    simp only [if_true] at hmm
    obtain rfl : cap = m := hmm.symm
    have hC : Tryz.prog.cellsOf 59 = 2 := by kernel_rfl
    have c3 : Tryz.prog.cellsOf 3 = 1 := by kernel_rfl
    have each : ∀ i, i < len → ∃ y : S59, w.cell? (a.add (i * 2)) = some (.int .i64 y.f0) ∧ w.cell? (a.add (i * 2 + 1)) = some (.int .i64 y.f1) ∧ (Lit.int .i64 y.f0).wf = true ∧ (Lit.int .i64 y.f1).wf = true := by
      intro i hil
      obtain ⟨cs', hc, ht'⟩ := hi i (by omega)
      rw [hC] at hc
      obtain ⟨ys, n', hn', hy, hlen, hyl, hf⟩ := DataW.trod_struct Tryz.underlying59 ht'
      obtain ⟨_, hcl, hat⟩ := World.cells?_some hc
      match cs', hcl with
      | [c0, c1], _ =>
        have g0 : DataW.trod enc Tryz.prog w base (fun _ => true) held n' 3 (([c0, c1].drop 0).take (Tryz.prog.cellsOf 3)) = _ := hf 0 _ rfl
        have g1 : DataW.trod enc Tryz.prog w base (fun _ => true) held n' 3 (([c0, c1].drop 1).take (Tryz.prog.cellsOf 3)) = _ := hf 1 _ rfl
        have hyl2 : ys.length = 2 := hyl
        rw [c3, List.getElem?_eq_getElem (by omega)] at g0 g1
        obtain ⟨x0, e0, _, w0⟩ := DataW.trod_int Tryz.underlying3 (show DataW.trod enc Tryz.prog w base (fun _ => true) held n' 3 [c0] = _ from g0)
        obtain ⟨x1, e1, _, w1⟩ := DataW.trod_int Tryz.underlying3 (show DataW.trod enc Tryz.prog w base (fun _ => true) held n' 3 [c1] = _ from g1)
        simp only [List.cons.injEq, and_true] at e0 e1
        subst e0 e1
        have h0 := hat (i := 0) (by omega)
        have h1 := hat (i := 1) (by omega)
        exact ⟨⟨x0, x1⟩, by simpa [Go.Deep.add_add] using h0, by simpa [Go.Deep.add_add] using h1, w0, w1⟩
    have hch : ∃ f : Nat → S59, ∀ i, i < len → w.cell? (a.add (i * 2)) = some (.int .i64 (f i).f0) ∧ w.cell? (a.add (i * 2 + 1)) = some (.int .i64 (f i).f1) ∧ (Lit.int .i64 (f i).f0).wf = true ∧ (Lit.int .i64 (f i).f1).wf = true := by
      refine Classical.axiomOfChoice (r := fun (i : Nat) (y : S59) => i < len → w.cell? (a.add (i * 2)) = some (.int .i64 y.f0) ∧ w.cell? (a.add (i * 2 + 1)) = some (.int .i64 y.f1) ∧ (Lit.int .i64 y.f0).wf = true ∧ (Lit.int .i64 y.f1).wf = true) (fun i => ?_)
      by_cases hil : i < len
      · obtain ⟨y, hy⟩ := each i hil
        exact ⟨y, fun _ => hy⟩
      · exact ⟨⟨0, 0⟩, fun h => absurd h hil⟩
    obtain ⟨f, hf⟩ := hch
    have e : ((List.range len).map f).length = len := by simp
    have hm' : len ≤ maxLen := Nat.le_trans hl hm
    refine ⟨some a, (List.range len).map f, cap, by rw [e], ⟨rfl, by rw [e]; simpa [maxLen] using hm', fun _ => ⟨a, rfl, fun j p hj => ?_⟩⟩, by rw [e]; exact hl, by rw [e]; exact hm', fun y hy => ?_⟩
    · have hjl : j < len := by
        have := (List.getElem?_eq_some_iff.mp hj).1
        simpa using this
      obtain rfl : f j = p := by simpa [hjl] using hj
      obtain ⟨g0, g1, _⟩ := hf j hjl
      refine ⟨[.int .i64 (f j).f0, .int .i64 (f j).f1], rfl, k59_mk w (f j), fun i u hu => ?_⟩
      rw [show k59.sz = 2 from rfl]
      match i, hu with
      | 0, hu => simp at hu; subst hu; simpa using g0
      | 1, hu => simp at hu; subst hu; exact g1
    · obtain ⟨i, hi', rfl⟩ := List.mem_map.mp hy
      exact (hf i (by simpa using hi')).2.2
structure RuleIn (w : World) (v : Value) (a0 a1 a2 a3 : Int) (A4 A5 A6 : Option Addr) (c4 c5 c6 : Nat) (l4 l5 : List Int) (l6 : List S59) : Prop where
  eq : v = .agg #[.int .i64 a0, .int .i64 a1, .int .i64 a2, .int .i64 a3, .slice A4 l4.length c4, .slice A5 l5.length c5, .slice A6 l6.length c6]
  w0 : (Lit.int .i64 a0).wf = true
  w1 : (Lit.int .i64 a1).wf = true
  w2 : (Lit.int .i64 a2).wf = true
  w3 : (Lit.int .i64 a3).wf = true
  r4 : Kd.C (Kd.int .i64) w A4 l4.length l4
  r5 : Kd.C (Kd.int .i64) w A5 l5.length l5
  r6 : Kd.C k59 w A6 l6.length l6
  k4 : l4.length ≤ c4
  k5 : l5.length ≤ c5
  k6 : l6.length ≤ c6
  m4 : l4.length ≤ maxLen
  m5 : l5.length ≤ maxLen
  m6 : l6.length ≤ maxLen
  s4 : l4.length * 8 ≤ 140737488351232
  s5 : l5.length * 8 ≤ 140737488351232
  f4 : ∀ n ∈ l4, (Lit.int .i64 n).wf = true
  f5 : ∀ n ∈ l5, (Lit.int .i64 n).wf = true
  f6 : ∀ x ∈ l6, (Lit.int .i64 x.f0).wf = true ∧ (Lit.int .i64 x.f1).wf = true
set_option maxRecDepth 100000 in
theorem open_rule {r : Reach} {b0 : Nat} {v : Value} {d : DataW H} {p : List MemPlace} (hv : Value.okWide Tryz.prog w r b0 25 v) (h : DataW.Trod enc Tryz.prog w base (fun _ => true) held 25 v d p) (hw : ∀ x ∈ d.weights Tryz.prog 25, x ≤ reachBytes) :
    ∃ a0 a1 a2 a3 A4 A5 A6 c4 c5 c6 l4 l5 l6, RuleIn w v a0 a1 a2 a3 A4 A5 A6 c4 c5 c6 l4 l5 l6 := by
  obtain ⟨v0, v1, v2, v3, v4, v5, v6, y0, y1, y2, y3, y4, y5, y6, n, rfl, rfl, h0, h1, h2, h3, h4, h5, h6⟩ := open_agg7 Tryz.underlying25 (by kernel_rfl) (by kernel_rfl) hv h
  obtain ⟨a0, e0, _, w0⟩ := DataW.trod_int Tryz.underlying3 (show DataW.trod enc Tryz.prog w base (fun _ => true) held n 3 [v0] = _ from h0)
  obtain ⟨a1, e1, _, w1⟩ := DataW.trod_int Tryz.underlying3 (show DataW.trod enc Tryz.prog w base (fun _ => true) held n 3 [v1] = _ from h1)
  obtain ⟨a2, e2, _, w2⟩ := DataW.trod_int Tryz.underlying3 (show DataW.trod enc Tryz.prog w base (fun _ => true) held n 3 [v2] = _ from h2)
  obtain ⟨a3, e3, _, w3⟩ := DataW.trod_int Tryz.underlying2 (show DataW.trod enc Tryz.prog w base (fun _ => true) held n 2 [v3] = _ from h3)
  simp only [List.cons.injEq, and_true] at e0 e1 e2 e3
  subst e0 e1 e2 e3
  obtain ⟨A4, l4, c4, rfl, r4, k4, m4, f4⟩ := row_ints Tryz.underlying22 Tryz.underlying3 (by kernel_rfl) (show DataW.trod enc Tryz.prog w base (fun _ => true) held n 22 [v4] = _ from h4)
  obtain ⟨A5, l5, c5, rfl, r5, k5, m5, f5⟩ := row_ints Tryz.underlying22 Tryz.underlying3 (by kernel_rfl) (show DataW.trod enc Tryz.prog w base (fun _ => true) held n 22 [v5] = _ from h5)
  obtain ⟨A6, l6, c6, rfl, r6, k6, m6, f6⟩ := row_week Tryz.underlying23 (show DataW.trod enc Tryz.prog w base (fun _ => true) held n 23 [v6] = _ from h6)
  have hin : (DataW.weightsEach Tryz.prog [3, 3, 3, 2, 22, 22, 23] [y0.1, y1.1, y2.1, y3.1, y4.1, y5.1, y6.1]).all (· ≤ reachBytes) = true := by
    rw [List.all_eq_true]
    intro x hx
    rw [decide_eq_true_eq]
    refine hw x ?_
    unfold DataW.weights
    rw [Tryz.underlying25]
    exact hx
  have s4 := sized_ints hin (j := 4) (t := 22) rfl rfl Tryz.underlying22 Tryz.underlying3 (by kernel_rfl) (B := 8) (by kernel_rfl) (a := A4) (len := l4.length) (cap := c4) (ps := y4.2) ⟨n, h4⟩
  have s5 := sized_ints hin (j := 5) (t := 22) rfl rfl Tryz.underlying22 Tryz.underlying3 (by kernel_rfl) (B := 8) (by kernel_rfl) (a := A5) (len := l5.length) (cap := c5) (ps := y5.2) ⟨n, h5⟩
  exact ⟨a0, a1, a2, a3, A4, A5, A6, c4, c5, c6, l4, l5, l6, rfl, w0, w1, w2, w3, r4, r5, r6, k4, k5, k6, m4, m5, m6, s4, s5, f4, f5, f6⟩
end
end Go.Proofs.YtfbmjonhohebiaaGreatDoor
end
section
set_option linter.unusedVariables false
set_option linter.unusedSimpArgs false
namespace Go.Proofs.YtfbmjonhohebiaaGreatDoor
open Go.RowKit Go.ChangeShapes Go.WideShapes
theorem returns_laid {H : Type} {enc : TypeId × Value → H} {a : Assume} {C : Checked} {os : Os} {f : FuncId} {fn : Func} {s : ChangeSpec} {conds : List PathCond} {apart fresh handsOn again : Bool} {X : World → Array Value → Prop}
    (hX : ∀ (w w' : World) (args : Array Value), w.heap = w'.heap → X w args → X w' args)
    (own : ownKnob C.prog.godebug = none) (started : os.Started) (noInit : C.prog.inits.idxOf? f = none) (hfn : C.prog.funcs[f]? = some fn)
    (witness : ∃ (w : World) (tape : Tape) (i : Input), w.os = os ∧ (w.forCall tape i).Shaped C.prog ∧ i.vars = [] ∧ Input.okWide C.prog (w.forCall tape i) .any w.heap.size f i ∧
      ((s.pre enc C.prog fn conds apart (w.forCall tape i).memory i.args ∧ X (w.forCall tape i).memory i.args) ∧ sizedMet enc C.prog fn (OpenSpec.ofChange s) apart (w.forCall tape i).memory i.args) ∧ a.holds C.prog (lone (Frame.enter C.prog f i.args .normal) [] (w.forCall tape i)))
    (contract : ∀ (W : World) (base : Nat) (args : Array Value) (ds gs : List (DataW H)) (before : List MemPlace),
      (∀ (j : Nat) t v, fn.params[j]? = some t → args[j]? = some v → Value.okWide C.prog W .any base t v) →
      DataW.Whole enc C.prog fn.params.toList s.vars apart W args.toList ds gs before →
      (DataW.weightsEach C.prog (fn.params.toList ++ s.plain.varTypes C.prog) (ds ++ gs)).all (· ≤ reachBytes) = true → X W args → W.ShapedOpen C.prog →
      Calls C.prog f args W fun e W' => ∃ v, e = .returned v ∧ s.post enc C.prog fn apart fresh handsOn again W args v W') :
    ReturnsInHanded a C os f .any (fun w args => (s.pre enc C.prog fn conds apart w args ∧ X w args) ∧ sizedMet enc C.prog fn (OpenSpec.ofChange s) apart w args) (s.post enc C.prog fn apart fresh handsOn again) := by
  refine returnsInHanded_of_calls own started noInit witness ?_
  intro w tape i _ hsh _ hok hpre hholds
  obtain ⟨_, _, _, fn', hfn', _, _, _, _, hval⟩ := hok
  have e : fn' = fn := Option.some.inj (hfn'.symm.trans hfn)
  subst e
  obtain ⟨⟨⟨ds, gs, before, hw, hc⟩, hx⟩, hz⟩ := hpre
  have hw' := DataW.Whole.of_heap (w' := w.forCall tape i) (by rfl) hw
  refine (contract (w.forCall tape i) w.heap.size i.args ds gs before hval hw' (hz.weights hw) (hX _ _ _ (by rfl) hx) hsh).mono fun e W' ⟨v, he, hp⟩ => ?_
  subst he
  exact ChangeSpec.post_blind hp
theorem iface_of_trod {H : Type} {enc : TypeId × Value → H} {P : Program} {w : World} {base : Nat} {sp : Nat → Bool} {held : Bool} {fuel : Nat} {t : TypeId} {ms : Array (String × TypeId)} {cs : List Value} {n : String} {d : DataW H} {p : List MemPlace}
    (ht : P.underlying t = some (.interface ms)) (h : DataW.trod enc P w base sp held fuel t cs = some (.iface n d, p)) : ∃ u v, cs = [.iface u v] := by
  cases fuel with
  | zero => simp [DataW.trod] at h
  | succ k =>
    unfold DataW.trod at h
    rw [ht] at h
    split at h <;> simp_all
theorem laid_iface {P : Program} {W : World} {name n : String} {d : DataW Unit} {rest : List (String × DataW Unit)} {g : Nat} {t : TypeId} {ms : Array (String × TypeId)}
    (hg : P.globalNamed name = some g) (hty : (P.globals[g]?).map (·.type) = some t) (ht : P.underlying t = some (.interface ms))
    (h : laidMet P ((name, .iface n d) :: rest) W) : ∃ tp p, W.var? P name = some #[.iface tp p] := by
  obtain ⟨ps, ⟨g', t', cs, fuel, p, q, hg', ht', hvar, hd, _, _⟩, _⟩ := h
  obtain rfl := Option.some.inj (hg.symm.trans hg')
  obtain rfl := Option.some.inj (hty.symm.trans ht')
  obtain ⟨u, v, e⟩ := iface_of_trod ht hd
  exact ⟨u, v, by rw [hvar, Array.eq_one_of_toList e]⟩
theorem laid_size {P : Program} {W : World} {name : String} {d : DataW Unit} {rest : List (String × DataW Unit)} {g : Nat} (hg : P.globalNamed name = some g)
    (h : laidMet P ((name, d) :: rest) W) : g < W.heap.size := by
  obtain ⟨ps, ⟨g', t', cs, fuel, p, q, hg', ht', hvar, hd, _, _⟩, _⟩ := h
  obtain rfl := Option.some.inj (hg.symm.trans hg')
  rcases Nat.lt_or_ge g W.heap.size with hlt | hge
  · exact hlt
  · unfold World.var? at hvar
    rw [hg] at hvar
    simp [Array.getElem?_eq_none hge] at hvar
abbrev laidL : List (String × DataW Unit) := Rows.recurMatchesRow.laid
theorem globs_of {W : World} (hsh : W.ShapedOpen Tryz.prog) (hL : laidMetH Tryz.prog laidL W) : Globs W := by
  rw [MakeChecks.laidMetH_plain _ _ _ (by kernel_rfl)] at hL
  have h1 := hL.filter (fun x => x.1 == "internal/strconv.uint64pow10")
  have h2 := hL.filter (fun x => x.1 == "strconv.ErrSyntax")
  have h3 := hL.filter (fun x => x.1 == "strconv.ErrRange")
  have h4 := hL.filter (fun x => x.1 == "math/bits.deBruijn64tab")
  rw [show laidL.filter (fun x => x.1 == "internal/strconv.uint64pow10") = [("internal/strconv.uint64pow10", Lib.tabData .u64 Lib.pow10Tab)] from by kernel_rfl] at h1
  rw [show laidL.filter (fun x => x.1 == "strconv.ErrSyntax") = [("strconv.ErrSyntax", Rows.laid_strconv_ErrSyntax)] from by kernel_rfl] at h2
  rw [show laidL.filter (fun x => x.1 == "strconv.ErrRange") = [("strconv.ErrRange", Rows.laid_strconv_ErrRange)] from by kernel_rfl] at h3
  rw [show laidL.filter (fun x => x.1 == "math/bits.deBruijn64tab") = [("math/bits.deBruijn64tab", Rows.laid_math_bits_deBruijn64tab)] from by kernel_rfl] at h4
  refine ⟨?_, ?_, ?_, ?_, ?_⟩
  · have := laid_size (g := 7) (by kernel_rfl) h4
    omega
  · exact cell_of_shapedOpen_int (t := 3) (zero := #[.int .i64 0]) hsh (by decide +kernel) (by kernel_rfl) rfl (by kernel_rfl) (by kernel_rfl) Tryz.underlying3
  · exact Lib.tabIs_of_head (g := 1) (by kernel_rfl) (by kernel_rfl) Tryz.underlying164 Tryz.underlying143 (by kernel_rfl) (by kernel_rfl) h1
  · exact laid_iface (g := 4) (by kernel_rfl) (by kernel_rfl) Tryz.underlying100 h2
  · exact laid_iface (g := 5) (by kernel_rfl) (by kernel_rfl) Tryz.underlying100 h3
theorem own_knob : ownKnob Tryz.prog.godebug = none := by kernel_rfl
theorem laid_out : laidOutB Tryz.prog = true := by kernel_rfl
end Go.Proofs.YtfbmjonhohebiaaGreatDoor
end
section
set_option linter.unusedVariables false
set_option linter.unusedSimpArgs false
namespace Go.Proofs.YtfbmjonhohebiaaGreatDoor.cwin
open Go.RowKit Go.ChangeShapes Go.WideShapes Go.ChangeAt
theorem wf_b {x : Int} (h : (Lit.int .i64 x).wf = true) : -9223372036854775808 ≤ x ∧ x ≤ 9223372036854775807 := by
  unfold Lit.wf at h
  rw [Bool.and_eq_true, decide_eq_true_eq, decide_eq_true_eq] at h
  exact h
theorem aliveC : AliveC Globs := ⟨fun h hb => h.below hb, fun h => law21_alive _ h⟩
set_option maxRecDepth 100000 in
theorem lifted (os : Os) (started : os.Started) (H : Type) (enc : TypeId × Value → H) :
    ReturnsInHanded {} Tryz.checked os 6 .any (fun w args => (Rows.recurWindowsSpec.pre enc Tryz.prog Tryz.f6 [] false w args ∧ laidMetH Tryz.prog laidL w) ∧ sizedMet enc Tryz.prog Tryz.f6 (OpenSpec.ofChange Rows.recurWindowsSpec) false w args)
      (Rows.recurWindowsSpec.post enc Tryz.prog Tryz.f6 false true false false) := by
  refine returns_laid (C := Tryz.checked) (X := fun w _ => laidMetH Tryz.prog laidL w) (fun _ _ _ hh h => h.of_heap hh) own_knob started (by kernel_rfl) Tryz.func6
    (ChangeSpec.witness_shaped (enc := enc) (C := Tryz.checked) (os := os) (X := fun w _ => laidMetH Tryz.prog laidL w) false (World.laidAll Tryz.prog os laidL) #[.agg #[.int .i64 0, .int .i64 0, .int .i64 0, .int .i64 0, .slice none 0 0, .slice none 0 0, .slice none 0 0], .int .i64 0, .int .i64 0, .int .i64 0, .int .i64 0] 8 (World.laidAll_os _ _ _)
      (World.shaped_of_ZipB (by kernel_rfl) (by kernel_rfl)) (by kernel_rfl) (by kernel_rfl) (by kernel_rfl)
      (by rw [MakeChecks.laidMetH_plain _ _ _ (by kernel_rfl)]; exact laidMet_laidAll _ (by kernel_rfl) (by kernel_rfl))) ?_
  intro W base args ds gs before hval0 hW hsz0 hL hsh
  have hval : ∀ (j : Nat) t v, Tryz.f6.params[j]? = some t → args[j]? = some v → Value.okWide Tryz.prog W .any base t v := hval0
  have hW' := hW
  obtain ⟨p, q, hA0, hV, rfl, hfz, hnd⟩ := hW
  have hA : DataW.TrodAll enc Tryz.prog W 0 (fun _ => true) true Tryz.f6.params.toList args.toList ds p := hA0
  rw [Tryz.params6] at hA hval
  obtain ⟨v0, vs0, d0, ds0, p0, q0, hargs, rfl, rfl, h0, r0⟩ := trodAll_cons hA
  obtain ⟨v1, vs1, d1, ds1, p1, q1, rfl, rfl, rfl, h1, r1⟩ := trodAll_cons r0
  obtain ⟨v2, vs2, d2, ds2, p2, q2, rfl, rfl, rfl, h2, r2⟩ := trodAll_cons r1
  obtain ⟨v3, vs3, d3, ds3, p3, q3, rfl, rfl, rfl, h3, r3⟩ := trodAll_cons r2
  obtain ⟨v4, vs4, d4, ds4, p4, q4, rfl, rfl, rfl, h4, r4⟩ := trodAll_cons r3
  obtain ⟨rfl, rfl, rfl⟩ := trodAll_nil r4
  obtain rfl : args = #[v0, v1, v2, v3, v4] := by cases args; simp_all
  obtain ⟨rfl, rfl⟩ := trodVars_none hV
  have k0 := h0
  have lt0 : ∀ x ∈ p0, x.block < W.heap.size := by obtain ⟨m, hm⟩ := k0; exact DataW.trod_lt m _ _ _ hm
  obtain ⟨a0, a1, a2, a3, A4, A5, A6, c4, c5, c6, l4, l5, l6, hR⟩ := open_rule (hval 0 25 v0 rfl rfl) h0 (fun x hx => by simpa using List.all_eq_true.1 hsz0 x (DataW.weights_mem_each (j := 0) rfl rfl x hx))
  obtain rfl := hR.eq
  obtain ⟨x1, rfl, rfl, rfl, w1⟩ := open_int Tryz.underlying2 (hval 1 2 v1 rfl rfl) h1
  obtain ⟨x2, rfl, rfl, rfl, w2⟩ := open_int Tryz.underlying2 (hval 2 2 v2 rfl rfl) h2
  obtain ⟨x3, rfl, rfl, rfl, w3⟩ := open_int Tryz.underlying2 (hval 3 2 v3 rfl rfl) h3
  obtain ⟨x4, rfl, rfl, rfl, w4⟩ := open_int Tryz.underlying2 (hval 4 2 v4 rfl rfl) h4
  have b1 : -9223372036854775808 ≤ x1 ∧ x1 ≤ 9223372036854775807 := wf_b w1
  have b2 : -9223372036854775808 ≤ x2 ∧ x2 ≤ 9223372036854775807 := wf_b w2
  have b3 : -9223372036854775808 ≤ x3 ∧ x3 ≤ 9223372036854775807 := wf_b w3
  have b4 : -9223372036854775808 ≤ x4 ∧ x4 ≤ 9223372036854775807 := wf_b w4
  have hLs : Lists W A4 A5 A6 c4 c5 c6 l4 l5 l6 := ⟨hR.r4, hR.k4, hR.r5, hR.k5, hR.r6, hR.k6⟩
  have hlen : (l4.length + l5.length : Int) ≤ 9223372036854775807 := by have := hR.s4; have := hR.s5; omega
  clear hA0 hval0 hsz0
  refine (law_windows aliveC hLs hR.m4 hR.m5 hlen x1 x2 x3 x4 b1.1 b4.2 (globs_of hsh hL)).mono fun e W' ⟨he, bel⟩ => ?_
  subst he
  exact ⟨_, rfl, _, _, _, [], _, [], hW', trodAll_mk1 (shut_bool Tryz.underlying4 _), (trodAll_cons_mk (Below.trod laid_out (by kernel_rfl) (of_decide_eq_true (by kernel_rfl)) k0 bel lt0) (trodAll_cons_mk (shut_int Tryz.underlying2 w1) (trodAll_cons_mk (shut_int Tryz.underlying2 w2) (trodAll_cons_mk (shut_int Tryz.underlying2 w3) (trodAll_cons_mk (shut_int Tryz.underlying2 w4) trodAll_mk0))))), rfl, bel.frame _, fun h => by cases h⟩
theorem row_holds : Rows.RecurWindowsSaid :=
  OpenClaim.holds_of_wide 6 Tryz.f6 rfl rfl rfl rfl rfl rfl rfl ⟨rfl, rfl, rfl, rfl, rfl⟩ rfl rfl rfl rfl rfl (by kernel_rfl) Tryz.func6 (by kernel_rfl)
    (of_decide_eq_true (by kernel_rfl)) (by unfold Func.isWrapper; first | (rw [if_pos (by decide +kernel)]; kernel_rfl) | (rw [if_neg (by decide +kernel)]; exact ⟨rfl, rfl⟩))
    (fun os started H enc _ => lifted os started H enc)
end Go.Proofs.YtfbmjonhohebiaaGreatDoor.cwin
namespace Go.Proofs.YtfbmjonhohebiaaGreatDoor
open Go
theorem recurWindows_holds : Rows.RecurWindowsCardSaid :=
  Claim7.holds_tied_plain_at .later [] [.data, .data, .data, .data, .sentinel, .sentinel, .pinned] true (true, "b33394aeb83eeb3d9ebe71b8d15df1c6d715091045c1a0291b5a9f923bae1d65") true cwin.row_holds (fun _ h => by cases h) (by kernel_rfl) (fun _ h => by cases h) recurWindows_row_tie rfl ⟨rfl, rfl⟩ (by kernel_rfl) rfl
    (fun f fn hf hfn => by
      obtain rfl : f = 6 := Option.some.inj ((show Tryz.prog.funcNamed "posthorn/posthornlaw21.RecurWindows" = some 6 by kernel_rfl).symm.trans hf) |>.symm
      obtain rfl : fn = Tryz.f6 := (Option.some.inj (Tryz.func6.symm.trans hfn)).symm
      exact ⟨by kernel_rfl, fun j t ht => by
        rw [Tryz.params6] at ht
        have hm : t ∈ [25, 2, 2, 2, 2] := by simpa using Array.mem_of_getElem? ht
        have hall : ([25, 2, 2, 2, 2].all fun u => !Tryz.prog.wantsStandIn u) = true := by kernel_rfl
        exact (show Tryz.prog.wantsStandIn t = false by simpa using List.all_eq_true.1 hall t hm)⟩)
    (by kernel_rfl)
end Go.Proofs.YtfbmjonhohebiaaGreatDoor
end
section
set_option linter.unusedVariables false
set_option linter.unusedSimpArgs false
namespace Go.Proofs.YtfbmjonhohebiaaGreatDoor
open Go.RowKit Go.Proofs.YtfbmjonhohebiaaGreatDoorW.PrintWords Go.Proofs.YtfbmjonhohebiaaGreatDoorW.PrintLast Go.Proofs.YtfbmjonhohebiaaGreatDoorW.PrintMore PRecurExpands
theorem right_parts {a0 a1 c u c' u' : Int} {l4 l5 : List Int} {l6 : List S59} (h : RightP a0 a1 c u l4 l5 l6) (hc0 : 0 ≤ c') (hc1 : c' ≤ 10000) (hu : u' = -1 ∨ (timeP u' ∧ c' = 0)) : RightP a0 a1 c' u' l4 l5 l6 :=
  ⟨h.f0, h.f1, h.i0, h.i1, hc0, hc1, hu, h.m, h.d, h.dn, h.w⟩
theorem rec_expand_f {a0 a1 a2 a3 : Int} {A4 A5 A6 : Option Addr} {c4 c5 c6 : Nat} {l4 l5 : List Int} {l6 : List S59} {b : Bool} (hb : b = true ↔ RightP a0 a1 a2 a3 l4 l5 l6) {first frm upt most : Int} {w : World} (h : Lists w A4 A5 A6 c4 c5 c6 l4 l5 l6)
    (h4 : l4.length ≤ 1000000000) (h5 : l5.length ≤ 1000000000) (h6 : l6.length ≤ 1000000000) (he : expE b first frm upt most = 0) :
    Calls Tryz.prog 16 #[.agg #[.int .i64 a0, .int .i64 a1, .int .i64 a2, .int .i64 a3, .slice A4 l4.length c4, .slice A5 l5.length c5, .slice A6 l6.length c6], .int .i64 first, .int .i64 frm, .int .i64 upt, .int .i64 most] w fun e w' =>
      ∃ L A c, Aside0 (L = expV b a0 a1 a2 a3 l4 l5 l6 first frm upt most) ∧ e = .returned (.tuple #[.slice A L.length c, .int .i64 0]) ∧ Aside0 (Kd.C (Kd.int .i64) w' A L.length L ∧ L.length ≤ c) ∧ Aside0 (∀ ad, A = some ad → w.heap.size ≤ ad.block) ∧ Below w.heap.size w w' := by
  obtain ⟨hbt, ht1, ht2, ht3, x1, x2, x3⟩ := expE_zero he
  have hR := hb.mp hbt
  refine (recur_Expand_ok a0 a1 a2 a3 A4 A5 A6 c4 c5 c6 l4 l5 l6 hR first frm upt most w h.r4 h.k4 h.r5 h.k5 h.r6 h.k6 h4 h5 h6 ((timeP_S _).mpr ht1) ((timeP_S _).mpr ht2) ((timeP_S _).mpr ht3) (by omega) (by omega) (by omega)).mono ?_
  rintro e w' ⟨v, rfl, hown, hbw⟩
  rw [daysV_hits _ _ _ _ _ _ _ hR.i0] at hown
  have hL : expGo first frm upt a2 a3 most (hitsV a0 a1 l4 l5 l6 (first / 86400) (upt / 86400)) [] 0 = expV b a0 a1 a2 a3 l4 l5 l6 first frm upt most := by unfold expV; rw [if_pos he]
  rw [hL] at hown
  obtain ⟨A, c, rfl, hc, hC⟩ := Kd.R_reads (d := Kd.int .i64) (e := 2) (base := w.heap.size) (ok := fun _ => True) (Kd.R_of_own hown (fun _ _ => trivial))
  refine ⟨_, A, c, ⟨rfl⟩, rfl, ⟨hC, hc⟩, ⟨fun ad ha => ?_⟩, hbw⟩
  subst ha
  exact own_base hown ad.block rfl
theorem C_far {w : World} {A : Option Addr} {n : Nat} {xs : List Int} (h : Kd.C (Kd.int .i64) w A n xs) (p : Addr) (u : Value) (hp : ∀ ad, A = some ad → p.block < ad.block) : Kd.C (Kd.int .i64) (w.setCell p u) A n xs := by
  obtain ⟨h1, h2, h3⟩ := h
  refine ⟨h1, h2, fun hn => ?_⟩
  obtain ⟨ad, e, hc⟩ := h3 hn
  refine ⟨ad, e, fun j q hj => ?_⟩
  obtain ⟨c, k1, k2, k3⟩ := hc j q hj
  refine ⟨c, k1, k2, fun i v hi => ?_⟩
  rw [World.cell?_setCell_other _ _ _ _ (fun e2 => ?_)]
  · exact k3 i v hi
  · have := hp ad e
    rw [e2, add_block] at this
    omega
theorem until_rd {b b' : Bool} {a0 a1 : Int} {l4 l5 : List Int} {l6 : List S59} {first upt : Int} {La : List Int} (hLa : La = expV b a0 a1 0 (-1) l4 l5 l6 first first upt 1000) (e : expE b first first upt 1000 = 0) (e' : expE b' first first upt 1000 = 0) {K : Nat} (h1 : 1 ≤ K) (h2 : K ≤ La.length) {u : Int} (hu : u = rd La ((K : Int) - 1)) :
    timeP u ∧ expV b' a0 a1 0 u l4 l5 l6 first first upt 1000 = La.take K := by
  have hT : TimesP b a0 a1 0 (-1) l4 l5 l6 first upt La := by rw [hLa]; exact times_pure e
  obtain ⟨-, ⟨f0, f1⟩, -⟩ := expE_zero e
  have hl : La.length ≤ 1000 := by rw [hLa]; exact expV_len _ _ _ _ _ _ _ _ _ _ _ _
  have hue : u = La[K - 1] := by rw [hu, rd, show ((K : Int) - 1).toNat = K - 1 from by omega, List.getD_eq_getElem?_getD, List.getElem?_eq_getElem (by omega)]; rfl
  obtain ⟨d, h3, h4, h5, -⟩ := hT.day u (by rw [hue]; exact List.getElem_mem _)
  have hut : timeP u := by unfold timeP; omega
  have hu1 : u ≠ -1 := by unfold timeP at hut; omega
  refine ⟨hut, ?_⟩
  subst hLa
  have := until_pure (b' := b') (a0 := a0) (a1 := a1) (l4 := l4) (l5 := l5) (l6 := l6) e e' (K - 1) (by omega) (by omega) (by rw [← hue]; exact hu1)
  rw [← hue, show K - 1 + 1 = K from by omega] at this
  exact this
set_option maxRecDepth 100000 in
set_option maxHeartbeats 4000000 in
theorem law_counts {G : World → Prop} (hA : AliveC G) {a0 a1 a2 a3 : Int} {A4 A5 A6 : Option Addr} {c4 c5 c6 : Nat} {l4 l5 : List Int} {l6 : List S59} {w : World} (h : Lists w A4 A5 A6 c4 c5 c6 l4 l5 l6) (m4 : l4.length ≤ maxLen) (m5 : l5.length ≤ maxLen) (hl : (l4.length + l5.length : Int) ≤ 9223372036854775807)
    (first upt n : Int) (hf0 : -9223372036854775808 ≤ first) (hu : upt ≤ 9223372036854775807) (hg : G w) :
    Calls Tryz.prog 7 #[.agg #[.int .i64 a0, .int .i64 a1, .int .i64 a2, .int .i64 a3, .slice A4 l4.length c4, .slice A5 l5.length c5, .slice A6 l6.length c6], .int .i64 first, .int .i64 upt, .int .i64 n] w fun e w' =>
      e = .returned (.bool true) ∧ Below w.heap.size w w' := by
  have HL := Aside0.mk h
  have HG := Aside0.mk hg
  have HA := Aside0.mk hA
  have HF : Aside0 (-9223372036854775808 ≤ first ∧ upt ≤ 9223372036854775807) := ⟨⟨hf0, hu⟩⟩
  clear h hg hA hf0 hu
  have HB := Aside0.mk ((Below.refl w.heap.size w).alloc (Nat.le_refl _) (.cells #[.int .i64 a0, .int .i64 a1, .int .i64 a2, .int .i64 a3, .slice A4 l4.length c4, .slice A5 l5.length c5, .slice A6 l6.length c6] 25))
  have hz : w.heap.size < (w.alloc (.cells #[.int .i64 a0, .int .i64 a1, .int .i64 a2, .int .i64 a3, .slice A4 l4.length c4, .slice A5 l5.length c5, .slice A6 l6.length c6] 25)).heap.size := by simp
  have HX0 := Aside0.mk (heap_alloc_new w (.cells #[.int .i64 a0, .int .i64 a1, .int .i64 a2, .int .i64 a3, .slice A4 l4.length c4, .slice A5 l5.length c5, .slice A6 l6.length c6] 25))
  have HM : Aside0 (l4.length ≤ maxLen ∧ l5.length ≤ maxLen ∧ (l4.length + l5.length : Int) ≤ 9223372036854775807) := ⟨⟨m4, m5, hl⟩⟩
  clear m4 m5 hl
  by_cases hgr : greatB l4 l5 l6 = true
  · go_enter Tryz.func7, Tryz.ntmps7
    go_wp2_with (first
      | (go_at_call 10; refine (great_c (HL.out.below HB.out) HM.out.1 HM.out.2.1 HM.out.2.2).mono ?_; rintro e w2 ⟨rfl, hb2⟩; obtain ⟨hc2, hf2⟩ := bcell hb2; have hz : w.heap.size < w2.heap.size := Nat.lt_of_lt_of_le hz hb2.size; have HB' := Aside0.mk (HB.out.trans (hb2.mono HB.out.size)); clear HB hb2; have HB := HB'; clear HB')
      | (go_at_call 11; refine (HA.out.calls (HA.out.mono HG.out HB.out)).mono ?_; rintro e w2 ⟨rfl, hb2⟩; obtain ⟨hc2, hf2⟩ := bcell hb2; have hz : w.heap.size < w2.heap.size := Nat.lt_of_lt_of_le hz hb2.size; have HB' := Aside0.mk (HB.out.trans (hb2.mono HB.out.size)); clear HB hb2; have HB := HB'; clear HB'))
    go_ret
    exact ⟨rfl, HB.out⟩
  have hgr' : greatB l4 l5 l6 = false := by simpa using hgr
  clear hgr
  obtain ⟨g4, g5, g6⟩ := greatB_len hgr'
  by_cases hfr : farB first upt = true
  · go_enter Tryz.func7, Tryz.ntmps7
    go_wp2_with (first
      | (go_at_call 10; refine (great_c (HL.out.below HB.out) HM.out.1 HM.out.2.1 HM.out.2.2).mono ?_; rintro e w2 ⟨rfl, hb2⟩; obtain ⟨hc2, hf2⟩ := bcell hb2; have hz : w.heap.size < w2.heap.size := Nat.lt_of_lt_of_le hz hb2.size; have HB' := Aside0.mk (HB.out.trans (hb2.mono HB.out.size)); clear HB hb2; have HB := HB'; clear HB')
      | (go_at_call 15; refine (far_c first upt _ HF.out.1 HF.out.2).mono ?_; rintro e w2 ⟨rfl, hb2⟩; obtain ⟨hc2, hf2⟩ := bcell hb2; have hz : w.heap.size < w2.heap.size := Nat.lt_of_lt_of_le hz hb2.size; have HB' := Aside0.mk (HB.out.trans (hb2.mono HB.out.size)); clear HB hb2; have HB := HB'; clear HB')
      | (go_at_call 11; refine (HA.out.calls (HA.out.mono HG.out HB.out)).mono ?_; rintro e w2 ⟨rfl, hb2⟩; obtain ⟨hc2, hf2⟩ := bcell hb2; have hz : w.heap.size < w2.heap.size := Nat.lt_of_lt_of_le hz hb2.size; have HB' := Aside0.mk (HB.out.trans (hb2.mono HB.out.size)); clear HB hb2; have HB := HB'; clear HB'))
    go_ret
    exact ⟨rfl, HB.out⟩
  have hfr' : farB first upt = false := by simpa using hfr
  clear hfr
  by_cases q1 : n < 1
  · go_enter Tryz.func7, Tryz.ntmps7
    go_wp2_with (first
      | (go_at_call 10; refine (great_c (HL.out.below HB.out) HM.out.1 HM.out.2.1 HM.out.2.2).mono ?_; rintro e w2 ⟨rfl, hb2⟩; obtain ⟨hc2, hf2⟩ := bcell hb2; have hz : w.heap.size < w2.heap.size := Nat.lt_of_lt_of_le hz hb2.size; have HB' := Aside0.mk (HB.out.trans (hb2.mono HB.out.size)); clear HB hb2; have HB := HB'; clear HB')
      | (go_at_call 15; refine (far_c first upt _ HF.out.1 HF.out.2).mono ?_; rintro e w2 ⟨rfl, hb2⟩; obtain ⟨hc2, hf2⟩ := bcell hb2; have hz : w.heap.size < w2.heap.size := Nat.lt_of_lt_of_le hz hb2.size; have HB' := Aside0.mk (HB.out.trans (hb2.mono HB.out.size)); clear HB hb2; have HB := HB'; clear HB')
      | (go_at_call 11; refine (HA.out.calls (HA.out.mono HG.out HB.out)).mono ?_; rintro e w2 ⟨rfl, hb2⟩; obtain ⟨hc2, hf2⟩ := bcell hb2; have hz : w.heap.size < w2.heap.size := Nat.lt_of_lt_of_le hz hb2.size; have HB' := Aside0.mk (HB.out.trans (hb2.mono HB.out.size)); clear HB hb2; have HB := HB'; clear HB'))
    go_ret
    exact ⟨rfl, HB.out⟩
  by_cases q2 : 1000 < n
  · go_enter Tryz.func7, Tryz.ntmps7
    go_wp2_with (first
      | (go_at_call 10; refine (great_c (HL.out.below HB.out) HM.out.1 HM.out.2.1 HM.out.2.2).mono ?_; rintro e w2 ⟨rfl, hb2⟩; obtain ⟨hc2, hf2⟩ := bcell hb2; have hz : w.heap.size < w2.heap.size := Nat.lt_of_lt_of_le hz hb2.size; have HB' := Aside0.mk (HB.out.trans (hb2.mono HB.out.size)); clear HB hb2; have HB := HB'; clear HB')
      | (go_at_call 15; refine (far_c first upt _ HF.out.1 HF.out.2).mono ?_; rintro e w2 ⟨rfl, hb2⟩; obtain ⟨hc2, hf2⟩ := bcell hb2; have hz : w.heap.size < w2.heap.size := Nat.lt_of_lt_of_le hz hb2.size; have HB' := Aside0.mk (HB.out.trans (hb2.mono HB.out.size)); clear HB hb2; have HB := HB'; clear HB')
      | (go_at_call 11; refine (HA.out.calls (HA.out.mono HG.out HB.out)).mono ?_; rintro e w2 ⟨rfl, hb2⟩; obtain ⟨hc2, hf2⟩ := bcell hb2; have hz : w.heap.size < w2.heap.size := Nat.lt_of_lt_of_le hz hb2.size; have HB' := Aside0.mk (HB.out.trans (hb2.mono HB.out.size)); clear HB hb2; have HB := HB'; clear HB'))
    go_ret
    exact ⟨rfl, HB.out⟩
  have r1 : 1 ≤ n := by omega
  have r2 : n ≤ 1000 := by omega
  clear q1 q2
  obtain ⟨m, rfl⟩ : ∃ m : Nat, n = m := ⟨n.toNat, by omega⟩
  obtain ⟨b, HB1⟩ : ∃ b : Bool, Aside0 (b = true ↔ RightP a0 a1 0 (-1) l4 l5 l6) := by
    classical
    exact ⟨decide (RightP a0 a1 0 (-1) l4 l5 l6), ⟨by simp⟩⟩
  have HB2 : Aside0 (b = true ↔ RightP a0 a1 m (-1) l4 l5 l6) := ⟨HB1.out.trans ⟨fun h => right_parts h (by omega) (by omega) (.inl rfl), fun h => right_parts h (by omega) (by omega) (.inl rfl)⟩⟩
  by_cases n1 : expE b first first upt 1000 = 0
  · go_enter Tryz.func7, Tryz.ntmps7
    go_wp2_with (first
      | (go_at_call 10; refine (great_c (HL.out.below HB.out) HM.out.1 HM.out.2.1 HM.out.2.2).mono ?_; rintro e w2 ⟨rfl, hb2⟩; obtain ⟨hc2, hf2⟩ := bcell hb2; have hz : w.heap.size < w2.heap.size := Nat.lt_of_lt_of_le hz hb2.size; have HX1 := Aside0.mk ((hb2.block w.heap.size (blk_lt HX0.out)).trans HX0.out); have HB' := Aside0.mk (HB.out.trans (hb2.mono HB.out.size)); clear HB hb2 HX0; have HB := HB'; have HX0 := HX1; clear HB' HX1)
      | (go_at_call 15; refine (far_c first upt _ HF.out.1 HF.out.2).mono ?_; rintro e w2 ⟨rfl, hb2⟩; obtain ⟨hc2, hf2⟩ := bcell hb2; have hz : w.heap.size < w2.heap.size := Nat.lt_of_lt_of_le hz hb2.size; have HX1 := Aside0.mk ((hb2.block w.heap.size (blk_lt HX0.out)).trans HX0.out); have HB' := Aside0.mk (HB.out.trans (hb2.mono HB.out.size)); clear HB hb2 HX0; have HB := HB'; have HX0 := HX1; clear HB' HX1))
    have HB' := Aside0.mk ((HB.out.setCell (p := ⟨w.heap.size, 3, none⟩) (Nat.le_refl _) (.int .i64 (-1))).setCell (p := ⟨w.heap.size, 2, none⟩) (Nat.le_refl _) (.int .i64 0))
    clear HB
    have HB := HB'
    clear HB'
    have HX := Aside0.mk (blk_put (cs' := #[.int .i64 a0, .int .i64 a1, .int .i64 0, .int .i64 (-1), .slice A4 l4.length c4, .slice A5 l5.length c5, .slice A6 l6.length c6]) (blk_put (cs' := #[.int .i64 a0, .int .i64 a1, .int .i64 a2, .int .i64 (-1), .slice A4 l4.length c4, .slice A5 l5.length c5, .slice A6 l6.length c6]) HX0.out 3 (.int .i64 (-1)) rfl) 2 (.int .i64 0) rfl)
    refine (rec_expand_f HB1.out (HL.out.below HB.out) (by omega) (by omega) (by omega) n1).mono ?_
    rintro e wa ⟨La, Aa, ca, HLa, rfl, HCa, HQa, hb2⟩
    have HXa := Aside0.mk ((hb2.block w.heap.size (blk_lt HX.out)).trans HX.out)
    have hza : w.heap.size < wa.heap.size := blk_lt HXa.out
    have HB' := Aside0.mk (HB.out.trans (hb2.mono HB.out.size))
    clear HB hb2
    have HB := HB'
    clear HB'
    have xa0 : wa.cell? ⟨w.heap.size, 0, none⟩ = some (.int .i64 a0) := blk_cell HXa.out 0
    have xa1 : wa.cell? ⟨w.heap.size, 1, none⟩ = some (.int .i64 a1) := blk_cell HXa.out 1
    have xa2 : wa.cell? ⟨w.heap.size, 2, none⟩ = some (.int .i64 0) := blk_cell HXa.out 2
    have xa3 : wa.cell? ⟨w.heap.size, 3, none⟩ = some (.int .i64 (-1)) := blk_cell HXa.out 3
    have xa4 : wa.cell? ⟨w.heap.size, 4, none⟩ = some (.slice A4 l4.length c4) := blk_cell HXa.out 4
    have xa5 : wa.cell? ⟨w.heap.size, 5, none⟩ = some (.slice A5 l5.length c5) := blk_cell HXa.out 5
    have xa6 : wa.cell? ⟨w.heap.size, 6, none⟩ = some (.slice A6 l6.length c6) := blk_cell HXa.out 6
    have ya2 := blk_frozen HXa.out 2
    have ya3 := blk_frozen HXa.out 3
    go_wp2_with fail
    have HB' := Aside0.mk (HB.out.setCell (p := ⟨w.heap.size, 2, none⟩) (Nat.le_refl _) (.int .i64 m))
    have HX2 := Aside0.mk (blk_put (cs' := #[.int .i64 a0, .int .i64 a1, .int .i64 m, .int .i64 (-1), .slice A4 l4.length c4, .slice A5 l5.length c5, .slice A6 l6.length c6]) HXa.out 2 (.int .i64 m) rfl)
    refine (rec_expand_f HB2.out (HL.out.below HB'.out) (by omega) (by omega) (by omega) n1).mono ?_
    rintro e wb ⟨Lb, Ab, cb, HLb, rfl, HCb, HQb, hb2⟩
    have hQa : ∀ ad, Aa = some ad → w.heap.size < ad.block := fun ad e => by have := HQa.out ad e; simp at this; omega
    have HXb := Aside0.mk ((hb2.block w.heap.size (blk_lt HX2.out)).trans HX2.out)
    have HCb' := Aside0.mk (And.intro (Kd.C_below (C_far HCa.out.1 ⟨w.heap.size, 2, none⟩ (.int .i64 m) hQa) hb2) HCa.out.2)
    have HB2' := Aside0.mk (HB'.out.trans (hb2.mono HB'.out.size))
    have hlen : La.length ≤ 1000 := by rw [HLa.out]; exact expV_len _ _ _ _ _ _ _ _ _ _ _ _
    have hLb : Lb = La.take m := by rw [HLa.out, HLb.out]; exact count_pure n1 r1 r2
    have HQA := Aside0.mk hQa
    have hQb : ∀ ad, Ab = some ad → w.heap.size < ad.block := fun ad e => by have := HQb.out ad e; simp at this; omega
    have HQB := Aside0.mk hQb
    clear hQb
    clear HCa HQa HQb hb2 HB HB' HXa HX2 xa0 xa1 xa2 xa3 xa4 xa5 xa6 ya2 ya3 hQa HX HLb HX0
    have HCa := HCb'
    have HB := HB2'
    clear HCb' HB2'
    have hzb : w.heap.size < wb.heap.size := blk_lt HXb.out
    have xb0 : wb.cell? ⟨w.heap.size, 0, none⟩ = some (.int .i64 a0) := blk_cell HXb.out 0
    have xb1 : wb.cell? ⟨w.heap.size, 1, none⟩ = some (.int .i64 a1) := blk_cell HXb.out 1
    have xb2 : wb.cell? ⟨w.heap.size, 2, none⟩ = some (.int .i64 m) := blk_cell HXb.out 2
    have xb3 : wb.cell? ⟨w.heap.size, 3, none⟩ = some (.int .i64 (-1)) := blk_cell HXb.out 3
    have xb4 : wb.cell? ⟨w.heap.size, 4, none⟩ = some (.slice A4 l4.length c4) := blk_cell HXb.out 4
    have xb5 : wb.cell? ⟨w.heap.size, 5, none⟩ = some (.slice A5 l5.length c5) := blk_cell HXb.out 5
    have xb6 : wb.cell? ⟨w.heap.size, 6, none⟩ = some (.slice A6 l6.length c6) := blk_cell HXb.out 6
    have yb2 := blk_frozen HXb.out 2
    have yb3 := blk_frozen HXb.out 3
    have HLk := Lib.hid hLb
    clear hLb
    by_cases hA : La.length < m
    · obtain ⟨Lk, hk⟩ : ∃ Lk, Lk = Lb := ⟨_, rfl⟩
      rw [← hk] at HLk HCb
      have hlb : Lb.length = La.length := by rw [← hk, HLk.out, List.length_take]; omega
      have hlk : Lk.length = La.length := by rw [hk, hlb]
      have HCb' := Aside0.mk (show Kd.C (Kd.int .i64) wb Ab La.length Lk ∧ La.length ≤ cb from by rw [← hlk]; exact HCb.out)
      have HLk' := Lib.hid (show Lk = La.take La.length from by rw [HLk.out, List.take_length]; exact List.take_of_length_le (by omega))
      clear HCb HLk hk
      have HCb := HCb'
      have HLk := HLk'
      clear HCb' HLk'
      have hA' : (La.length : Int) < (m : Int) := by omega
      have hcap : La.length ≤ ca := HCa.out.2
      by_cases h0 : La.length = 0
      · have h0' : ((La.length : Int) == 0) = true := by rw [beq_iff_eq]; omega
        clear h0
        go_wp2_with (first
          | (go_at_call 18; refine (times_c2 (l := Lk) hlk.symm hlk.symm (by omega) (by rw [hlk]; exact HCb.out.1) (by rw [hlk]; exact HCb.out.2) (by rw [hlk, HLk.out]; exact C_take HCa.out.1 (by omega)) (by rw [hlk]; exact Nat.le_trans (by omega) HCa.out.2)).mono ?_; rintro e wc ⟨rfl, hb2⟩; obtain ⟨hcc, hfc⟩ := bcell hb2; have HXc := Aside0.mk ((hb2.block w.heap.size (blk_lt HXb.out)).trans HXb.out); have hzc : w.heap.size < wc.heap.size := blk_lt HXc.out; have HCa' := Aside0.mk (And.intro (Kd.C_below HCa.out.1 hb2) HCa.out.2); have HCb' := Aside0.mk (And.intro (Kd.C_below HCb.out.1 hb2) HCb.out.2); have HB' := Aside0.mk (HB.out.trans (hb2.mono HB.out.size)); clear HB hb2 HCa HCb HXb; have HB := HB'; have HCa := HCa'; have HCb := HCb'; clear HB' HCa' HCb')
          | (go_at_call 11; refine (HA.out.calls (HA.out.mono HG.out HB.out)).mono ?_; rintro e we ⟨rfl, hbe⟩))
        go_ret
        exact ⟨rfl, HB.out.trans (hbe.mono HB.out.size)⟩
      · have h0' : ((La.length : Int) == 0) = false := by rw [beq_eq_false_iff_ne]; omega
        go_wp2_with (first
          | (go_at_call 18; refine (times_c2 (l := Lk) hlk.symm hlk.symm (by omega) (by rw [hlk]; exact HCb.out.1) (by rw [hlk]; exact HCb.out.2) (by rw [hlk, HLk.out]; exact C_take HCa.out.1 (by omega)) (by rw [hlk]; exact Nat.le_trans (by omega) HCa.out.2)).mono ?_; rintro e wc ⟨rfl, hb2⟩; obtain ⟨hcc, hfc⟩ := bcell hb2; have HXc := Aside0.mk ((hb2.block w.heap.size (blk_lt HXb.out)).trans HXb.out); have hzc : w.heap.size < wc.heap.size := blk_lt HXc.out; have HCa' := Aside0.mk (And.intro (Kd.C_below HCa.out.1 hb2) HCa.out.2); have HCb' := Aside0.mk (And.intro (Kd.C_below HCb.out.1 hb2) HCb.out.2); have HB' := Aside0.mk (HB.out.trans (hb2.mono HB.out.size)); clear HB hb2 HCa HCb HXb; have HB := HB'; have HCa := HCa'; have HCb := HCb'; clear HB' HCa' HCb')
          | (go_at_call 11; refine (HA.out.calls (HA.out.mono HG.out HB.out)).mono ?_; rintro e we ⟨rfl, hbe⟩))
        obtain ⟨ad, hAd, hcl⟩ := Kd.at_int HCa.out.1 ((La.length : Int) - 1) (by omega) (by omega)
        have hbl : w.heap.size < ad.block := HQA.out ad hAd
        subst hAd
        obtain ⟨u, hu⟩ : ∃ u, u = rd La ((La.length : Int) - 1) := ⟨_, rfl⟩
        rw [← hu] at hcl
        have p1 : (0 : Int) ≤ (La.length : Int) - 1 := by omega
        have p2 : (La.length : Int) - 1 < (La.length : Int) := by omega
        have xc2 : wc.cell? ⟨w.heap.size, 2, none⟩ = some (.int .i64 m) := blk_cell HXc.out 2
        have xc3 : wc.cell? ⟨w.heap.size, 3, none⟩ = some (.int .i64 (-1)) := blk_cell HXc.out 3
        have yc2 := blk_frozen HXc.out 2
        have yc3 := blk_frozen HXc.out 3
        have HU := Aside0.mk (until_rd (b' := b) HLa.out n1 n1 (K := La.length) (by omega) (by omega) hu)
        clear hu
        rw [show ((La.length : Int) - 1).toNat = La.length - 1 from by omega] at hcl
        have hcl2 : (wc.setCell ⟨w.heap.size, 2, none⟩ (.int .i64 0)).cell? (ad.add (La.length - 1)) = some (.int .i64 u) := by
          rw [World.cell?_setCell_other _ _ _ _ (fun e2 => by have := congrArg Addr.block e2; rw [add_block] at this; simp at this; omega)]
          exact hcl
        go_region
        have HB' := Aside0.mk (((HB.out.setCell (p := ⟨w.heap.size, 2, none⟩) (Nat.le_refl _) (.int .i64 0)).setCell (p := ⟨w.heap.size, 3, none⟩) (Nat.le_refl _) (.int .i64 u)).drew)
        have HX' := Aside0.mk (show (((wc.setCell ⟨w.heap.size, 2, none⟩ (.int .i64 0)).setCell ⟨w.heap.size, 3, none⟩ (.int .i64 u)).drew).heap[w.heap.size]? = some (.cells #[.int .i64 a0, .int .i64 a1, .int .i64 0, .int .i64 u, .slice A4 l4.length c4, .slice A5 l5.length c5, .slice A6 l6.length c6] 25) from blk_put (cs' := #[.int .i64 a0, .int .i64 a1, .int .i64 0, .int .i64 u, .slice A4 l4.length c4, .slice A5 l5.length c5, .slice A6 l6.length c6]) (blk_put (cs' := #[.int .i64 a0, .int .i64 a1, .int .i64 0, .int .i64 (-1), .slice A4 l4.length c4, .slice A5 l5.length c5, .slice A6 l6.length c6]) HXc.out 2 (.int .i64 0) rfl) 3 (.int .i64 u) rfl)
        have HCb' := Aside0.mk (And.intro (Kd.C_below (C_far (C_far HCb.out.1 ⟨w.heap.size, 2, none⟩ (.int .i64 0) HQB.out) ⟨w.heap.size, 3, none⟩ (.int .i64 u) HQB.out) (Below.refl _ _).drew) HCb.out.2)
        clear HB HXc HCa HCb xc2 xc3 yc2 yc3 hcl hcl2 hcc hfc
        generalize ((wc.setCell ⟨w.heap.size, 2, none⟩ (.int .i64 0)).setCell ⟨w.heap.size, 3, none⟩ (.int .i64 u)).drew = wd at HB' HX' HCb' ⊢
        have xd0 : wd.cell? ⟨w.heap.size, 0, none⟩ = some (.int .i64 a0) := blk_cell HX'.out 0
        have xd1 : wd.cell? ⟨w.heap.size, 1, none⟩ = some (.int .i64 a1) := blk_cell HX'.out 1
        have xd2 : wd.cell? ⟨w.heap.size, 2, none⟩ = some (.int .i64 0) := blk_cell HX'.out 2
        have xd3 : wd.cell? ⟨w.heap.size, 3, none⟩ = some (.int .i64 u) := blk_cell HX'.out 3
        have xd4 : wd.cell? ⟨w.heap.size, 4, none⟩ = some (.slice A4 l4.length c4) := blk_cell HX'.out 4
        have xd5 : wd.cell? ⟨w.heap.size, 5, none⟩ = some (.slice A5 l5.length c5) := blk_cell HX'.out 5
        have xd6 : wd.cell? ⟨w.heap.size, 6, none⟩ = some (.slice A6 l6.length c6) := blk_cell HX'.out 6
        have HB3 : Aside0 (b = true ↔ RightP a0 a1 0 u l4 l5 l6) := ⟨⟨fun h => right_parts (HB1.out.mp h) (by omega) (by omega) (.inr ⟨HU.out.1, rfl⟩), fun _ => (expE_zero n1).1⟩⟩
        go_wp2_with fail
        refine (rec_expand_f HB3.out (HL.out.below HB'.out) (by omega) (by omega) (by omega) n1).mono ?_
        rintro e we ⟨Lc, Ac, cc, HLc, rfl, HCc, HQc, hb2⟩
        have hLc : Lc = La.take La.length := by rw [HLc.out]; exact HU.out.2
        have hlc : Lc.length = La.length := by rw [hLc, List.length_take]; omega
        have HE := Lib.hid (hLc.trans HLk.out.symm)
        have HB := Aside0.mk (HB'.out.trans (hb2.mono HB'.out.size))
        have HCb := Aside0.mk (And.intro (Kd.C_below HCb'.out.1 hb2) HCb'.out.2)
        clear hLc HU HB' HX' HCb' hb2 xd0 xd1 xd2 xd3 xd4 xd5 xd6 HLc HQc
        go_wp2_with (go_at_call 11; refine (HA.out.calls (HA.out.mono HG.out HB.out)).mono ?_; rintro e wf ⟨rfl, hb2⟩; have HB' := Aside0.mk (HB.out.trans (hb2.mono HB.out.size)); have HCc' := Aside0.mk (And.intro (Kd.C_below HCc.out.1 hb2) HCc.out.2); have HCb' := Aside0.mk (And.intro (Kd.C_below HCb.out.1 hb2) HCb.out.2); clear hb2 HB HCb HCc)
        refine (times_c2 (l := Lk) (by first | exact hlk.symm | rw [HE.out]) hlk.symm (by omega) (by rw [← HE.out]; exact HCc'.out.1) (by rw [← HE.out]; exact HCc'.out.2) (by rw [hlk]; exact HCb'.out.1) (by rw [hlk]; exact HCb'.out.2)).mono ?_
        rintro e wg ⟨rfl, hb8⟩
        go_wp2_with fail
        go_ret
        exact ⟨ret_bool (by simp), HB'.out.trans (hb8.mono HB'.out.size)⟩
    · obtain ⟨Lk, hk⟩ : ∃ Lk, Lk = Lb := ⟨_, rfl⟩
      rw [← hk] at HLk HCb
      have hlb : Lb.length = m := by rw [← hk, HLk.out, List.length_take]; omega
      have hlk : Lk.length = m := by rw [hk, hlb]
      have HCb' := Aside0.mk (show Kd.C (Kd.int .i64) wb Ab m Lk ∧ m ≤ cb from by rw [← hlk]; exact HCb.out)
      clear HCb hk
      have HCb := HCb'
      clear HCb'
      have hA' : ¬ (La.length : Int) < (m : Int) := by omega
      have hcap : La.length ≤ ca := HCa.out.2
      have h0' : ((m : Int) == 0) = false := by rw [beq_eq_false_iff_ne]; omega
      go_wp2_with (first
        | (go_at_call 18; refine (times_c2 (l := Lk) hlk.symm hlk.symm (by omega) (by rw [hlk]; exact HCb.out.1) (by rw [hlk]; exact HCb.out.2) (by rw [hlk, HLk.out]; exact C_take HCa.out.1 (by omega)) (by rw [hlk]; exact Nat.le_trans (by omega) HCa.out.2)).mono ?_; rintro e wc ⟨rfl, hb2⟩; obtain ⟨hcc, hfc⟩ := bcell hb2; have HXc := Aside0.mk ((hb2.block w.heap.size (blk_lt HXb.out)).trans HXb.out); have hzc : w.heap.size < wc.heap.size := blk_lt HXc.out; have HCa' := Aside0.mk (And.intro (Kd.C_below HCa.out.1 hb2) HCa.out.2); have HCb' := Aside0.mk (And.intro (Kd.C_below HCb.out.1 hb2) HCb.out.2); have HB' := Aside0.mk (HB.out.trans (hb2.mono HB.out.size)); clear HB hb2 HCa HCb HXb; have HB := HB'; have HCa := HCa'; have HCb := HCb'; clear HB' HCa' HCb')
        | (go_at_call 11; refine (HA.out.calls (HA.out.mono HG.out HB.out)).mono ?_; rintro e we ⟨rfl, hbe⟩))
      obtain ⟨ad, hAd, hcl⟩ := Kd.at_int HCa.out.1 ((m : Int) - 1) (by omega) (by omega)
      have hbl : w.heap.size < ad.block := HQA.out ad hAd
      subst hAd
      obtain ⟨u, hu⟩ : ∃ u, u = rd La ((m : Int) - 1) := ⟨_, rfl⟩
      rw [← hu] at hcl
      have p1 : (0 : Int) ≤ (m : Int) - 1 := by omega
      have p2 : (m : Int) - 1 < (La.length : Int) := by omega
      have xc2 : wc.cell? ⟨w.heap.size, 2, none⟩ = some (.int .i64 m) := blk_cell HXc.out 2
      have xc3 : wc.cell? ⟨w.heap.size, 3, none⟩ = some (.int .i64 (-1)) := blk_cell HXc.out 3
      have yc2 := blk_frozen HXc.out 2
      have yc3 := blk_frozen HXc.out 3
      have HU := Aside0.mk (until_rd (b' := b) HLa.out n1 n1 (K := m) (by omega) (by omega) hu)
      clear hu
      rw [show ((m : Int) - 1).toNat = m - 1 from by omega] at hcl
      have hcl2 : (wc.setCell ⟨w.heap.size, 2, none⟩ (.int .i64 0)).cell? (ad.add (m - 1)) = some (.int .i64 u) := by
        rw [World.cell?_setCell_other _ _ _ _ (fun e2 => by have := congrArg Addr.block e2; rw [add_block] at this; simp at this; omega)]
        exact hcl
      go_region
      have HB' := Aside0.mk (((HB.out.setCell (p := ⟨w.heap.size, 2, none⟩) (Nat.le_refl _) (.int .i64 0)).setCell (p := ⟨w.heap.size, 3, none⟩) (Nat.le_refl _) (.int .i64 u)).drew)
      have HX' := Aside0.mk (show (((wc.setCell ⟨w.heap.size, 2, none⟩ (.int .i64 0)).setCell ⟨w.heap.size, 3, none⟩ (.int .i64 u)).drew).heap[w.heap.size]? = some (.cells #[.int .i64 a0, .int .i64 a1, .int .i64 0, .int .i64 u, .slice A4 l4.length c4, .slice A5 l5.length c5, .slice A6 l6.length c6] 25) from blk_put (cs' := #[.int .i64 a0, .int .i64 a1, .int .i64 0, .int .i64 u, .slice A4 l4.length c4, .slice A5 l5.length c5, .slice A6 l6.length c6]) (blk_put (cs' := #[.int .i64 a0, .int .i64 a1, .int .i64 0, .int .i64 (-1), .slice A4 l4.length c4, .slice A5 l5.length c5, .slice A6 l6.length c6]) HXc.out 2 (.int .i64 0) rfl) 3 (.int .i64 u) rfl)
      have HCb' := Aside0.mk (And.intro (Kd.C_below (C_far (C_far HCb.out.1 ⟨w.heap.size, 2, none⟩ (.int .i64 0) HQB.out) ⟨w.heap.size, 3, none⟩ (.int .i64 u) HQB.out) (Below.refl _ _).drew) HCb.out.2)
      clear HB HXc HCa HCb xc2 xc3 yc2 yc3 hcl hcl2 hcc hfc
      generalize ((wc.setCell ⟨w.heap.size, 2, none⟩ (.int .i64 0)).setCell ⟨w.heap.size, 3, none⟩ (.int .i64 u)).drew = wd at HB' HX' HCb' ⊢
      have xd0 : wd.cell? ⟨w.heap.size, 0, none⟩ = some (.int .i64 a0) := blk_cell HX'.out 0
      have xd1 : wd.cell? ⟨w.heap.size, 1, none⟩ = some (.int .i64 a1) := blk_cell HX'.out 1
      have xd2 : wd.cell? ⟨w.heap.size, 2, none⟩ = some (.int .i64 0) := blk_cell HX'.out 2
      have xd3 : wd.cell? ⟨w.heap.size, 3, none⟩ = some (.int .i64 u) := blk_cell HX'.out 3
      have xd4 : wd.cell? ⟨w.heap.size, 4, none⟩ = some (.slice A4 l4.length c4) := blk_cell HX'.out 4
      have xd5 : wd.cell? ⟨w.heap.size, 5, none⟩ = some (.slice A5 l5.length c5) := blk_cell HX'.out 5
      have xd6 : wd.cell? ⟨w.heap.size, 6, none⟩ = some (.slice A6 l6.length c6) := blk_cell HX'.out 6
      have HB3 : Aside0 (b = true ↔ RightP a0 a1 0 u l4 l5 l6) := ⟨⟨fun h => right_parts (HB1.out.mp h) (by omega) (by omega) (.inr ⟨HU.out.1, rfl⟩), fun _ => (expE_zero n1).1⟩⟩
      go_wp2_with fail
      refine (rec_expand_f HB3.out (HL.out.below HB'.out) (by omega) (by omega) (by omega) n1).mono ?_
      rintro e we ⟨Lc, Ac, cc, HLc, rfl, HCc, HQc, hb2⟩
      have hLc : Lc = La.take m := by rw [HLc.out]; exact HU.out.2
      have hlc : Lc.length = m := by rw [hLc, List.length_take]; omega
      have HE := Lib.hid (hLc.trans HLk.out.symm)
      have HB := Aside0.mk (HB'.out.trans (hb2.mono HB'.out.size))
      have HCb := Aside0.mk (And.intro (Kd.C_below HCb'.out.1 hb2) HCb'.out.2)
      clear hLc HU HB' HX' HCb' hb2 xd0 xd1 xd2 xd3 xd4 xd5 xd6 HLc HQc
      go_wp2_with (go_at_call 11; refine (HA.out.calls (HA.out.mono HG.out HB.out)).mono ?_; rintro e wf ⟨rfl, hb2⟩; have HB' := Aside0.mk (HB.out.trans (hb2.mono HB.out.size)); have HCc' := Aside0.mk (And.intro (Kd.C_below HCc.out.1 hb2) HCc.out.2); have HCb' := Aside0.mk (And.intro (Kd.C_below HCb.out.1 hb2) HCb.out.2); clear hb2 HB HCb HCc)
      refine (times_c2 (l := Lk) (by first | exact hlk.symm | rw [HE.out]) hlk.symm (by omega) (by rw [← HE.out]; exact HCc'.out.1) (by rw [← HE.out]; exact HCc'.out.2) (by rw [hlk]; exact HCb'.out.1) (by rw [hlk]; exact HCb'.out.2)).mono ?_
      rintro e wg ⟨rfl, hb8⟩
      go_wp2_with fail
      go_ret
      exact ⟨ret_bool (by simp), HB'.out.trans (hb8.mono HB'.out.size)⟩
  · have hne : (expE b first first upt 1000 != 0) = true := bne_iff_ne.mpr n1
    go_enter Tryz.func7, Tryz.ntmps7
    go_wp2_with (first
      | (go_at_call 10; refine (great_c (HL.out.below HB.out) HM.out.1 HM.out.2.1 HM.out.2.2).mono ?_; rintro e w2 ⟨rfl, hb2⟩; obtain ⟨hc2, hf2⟩ := bcell hb2; have hz : w.heap.size < w2.heap.size := Nat.lt_of_lt_of_le hz hb2.size; have HX1 := Aside0.mk ((hb2.block w.heap.size (blk_lt HX0.out)).trans HX0.out); have HB' := Aside0.mk (HB.out.trans (hb2.mono HB.out.size)); clear HB hb2 HX0; have HB := HB'; have HX0 := HX1; clear HB' HX1)
      | (go_at_call 15; refine (far_c first upt _ HF.out.1 HF.out.2).mono ?_; rintro e w2 ⟨rfl, hb2⟩; obtain ⟨hc2, hf2⟩ := bcell hb2; have hz : w.heap.size < w2.heap.size := Nat.lt_of_lt_of_le hz hb2.size; have HX1 := Aside0.mk ((hb2.block w.heap.size (blk_lt HX0.out)).trans HX0.out); have HB' := Aside0.mk (HB.out.trans (hb2.mono HB.out.size)); clear HB hb2 HX0; have HB := HB'; have HX0 := HX1; clear HB' HX1))
    have HB' := Aside0.mk ((HB.out.setCell (p := ⟨w.heap.size, 3, none⟩) (Nat.le_refl _) (.int .i64 (-1))).setCell (p := ⟨w.heap.size, 2, none⟩) (Nat.le_refl _) (.int .i64 0))
    clear HB
    have HB := HB'
    clear HB'
    have HX := Aside0.mk (blk_put (cs' := #[.int .i64 a0, .int .i64 a1, .int .i64 0, .int .i64 (-1), .slice A4 l4.length c4, .slice A5 l5.length c5, .slice A6 l6.length c6]) (blk_put (cs' := #[.int .i64 a0, .int .i64 a1, .int .i64 a2, .int .i64 (-1), .slice A4 l4.length c4, .slice A5 l5.length c5, .slice A6 l6.length c6]) HX0.out 3 (.int .i64 (-1)) rfl) 2 (.int .i64 0) rfl)
    refine (rec_expand_c HB1.out (HL.out.below HB.out) (by omega) (by omega) (by omega)).mono ?_
    rintro e wa ⟨La, Aa, ca, HLa, rfl, HCa, hb2⟩
    have HXa := Aside0.mk ((hb2.block w.heap.size (blk_lt HX.out)).trans HX.out)
    have hza : w.heap.size < wa.heap.size := blk_lt HXa.out
    have HB' := Aside0.mk (HB.out.trans (hb2.mono HB.out.size))
    clear HB hb2
    have HB := HB'
    clear HB'
    have xa0 : wa.cell? ⟨w.heap.size, 0, none⟩ = some (.int .i64 a0) := blk_cell HXa.out 0
    have xa1 : wa.cell? ⟨w.heap.size, 1, none⟩ = some (.int .i64 a1) := blk_cell HXa.out 1
    have xa2 : wa.cell? ⟨w.heap.size, 2, none⟩ = some (.int .i64 0) := blk_cell HXa.out 2
    have xa3 : wa.cell? ⟨w.heap.size, 3, none⟩ = some (.int .i64 (-1)) := blk_cell HXa.out 3
    have xa4 : wa.cell? ⟨w.heap.size, 4, none⟩ = some (.slice A4 l4.length c4) := blk_cell HXa.out 4
    have xa5 : wa.cell? ⟨w.heap.size, 5, none⟩ = some (.slice A5 l5.length c5) := blk_cell HXa.out 5
    have xa6 : wa.cell? ⟨w.heap.size, 6, none⟩ = some (.slice A6 l6.length c6) := blk_cell HXa.out 6
    have ya2 := blk_frozen HXa.out 2
    have ya3 := blk_frozen HXa.out 3
    go_wp2_with fail
    have HB' := Aside0.mk (HB.out.setCell (p := ⟨w.heap.size, 2, none⟩) (Nat.le_refl _) (.int .i64 m))
    refine (rec_expand_c HB2.out (HL.out.below HB'.out) (by omega) (by omega) (by omega)).mono ?_
    rintro e wb ⟨Lb, Ab, cb, HLb, rfl, HCb, hb2⟩
    have HB2' := Aside0.mk (HB'.out.trans (hb2.mono HB'.out.size))
    clear HB HB' hb2
    have HB := HB2'
    clear HB2'
    go_wp2_with (go_at_call 11; refine (HA.out.calls (HA.out.mono HG.out HB.out)).mono ?_; rintro e we ⟨rfl, hbe⟩)
    go_ret
    exact ⟨ret_bool (by simp), HB.out.trans (hbe.mono HB.out.size)⟩
end Go.Proofs.YtfbmjonhohebiaaGreatDoor
end
