/- Walk of the law RecurTimes, over whatever alive's contract wants of a world. -/
import Derived.Test.YtfbmjonhohebiaaGreatDoorQwk
set_option linter.unusedVariables false
set_option linter.unusedSimpArgs false
namespace Go.Proofs.YtfbmjonhohebiaaGreatDoor
open Go.RowKit Go.Proofs.YtfbmjonhohebiaaGreatDoorW.PrintWords Go.Proofs.YtfbmjonhohebiaaGreatDoorW.PrintLast Go.Proofs.YtfbmjonhohebiaaGreatDoorW.PrintMore PRecurExpands

theorem rec_match_c {a0 a1 a2 a3 : Int} {A4 A5 A6 : Option Addr} {c4 c5 c6 : Nat} {l4 l5 : List Int} {l6 : List S59} {b : Bool} (hb : b = true ↔ RightP a0 a1 a2 a3 l4 l5 l6) {first day : Int} {w : World} (h : Lists w A4 A5 A6 c4 c5 c6 l4 l5 l6)
    (h4 : l4.length ≤ 1000000000) (h5 : l5.length ≤ 1000000000) (h6 : l6.length ≤ 1000000000) :
    Calls Tryz.prog 12 #[.agg #[.int .i64 a0, .int .i64 a1, .int .i64 a2, .int .i64 a3, .slice A4 l4.length c4, .slice A5 l5.length c5, .slice A6 l6.length c6], .int .i64 first, .int .i64 day] w fun e w' =>
      e = .returned (.tuple #[.bool (MatchB b a0 a1 l4 l5 l6 first day), .int .i64 (MatchE b first day)]) ∧ Below w.heap.size w w' :=
  recur_Match a0 a1 a2 a3 A4 A5 A6 c4 c5 c6 l4 l5 l6 b hb first day w h.r4 h.k4 h.r5 h.k5 h.r6 h.k6 h4 h5 h6
/-- What one round of RecurTimes asks of the k-th time. -/
structure TimeK (b : Bool) (a0 a1 a2 a3 : Int) (l4 l5 : List Int) (l6 : List S59) (first upt : Int) (La : List Int) (k : Nat) (t : Int) : Prop where
  eq : t = rd La k
  lo : first ≤ t
  hi : t < upt
  top : t / 86400 ≤ 2932896
  rem : (t - first) % 86400 = 0
  unt : 0 ≤ a3 → t ≤ a3
  fst : k = 0 → t = first
  inc : 1 ≤ k → rd La ((k : Int) - 1) < t ∧ 0 ≤ rd La ((k : Int) - 1) ∧ first ≤ rd La ((k : Int) - 1)
  yes : 1 ≤ k → MatchB b a0 a1 l4 l5 l6 (first / 86400) (t / 86400) = true ∧ MatchE b (first / 86400) (t / 86400) = 0
  no : 1 ≤ k → ∀ d, rd La ((k : Int) - 1) / 86400 < d → d < t / 86400 → MatchB b a0 a1 l4 l5 l6 (first / 86400) d = false ∧ MatchE b (first / 86400) d = 0
theorem rd_get {L : List Int} {k : Nat} (h : k < L.length) : L[k]? = some (rd L k) := by
  rw [List.getElem?_eq_getElem h]; simp [rd, List.getD_eq_getElem?_getD, List.getElem?_eq_getElem h]
theorem timeK {b : Bool} {a0 a1 a2 a3 : Int} {l4 l5 : List Int} {l6 : List S59} {first upt : Int} {La : List Int} (e : expE b first first upt 40 = 0) (hL : La = expV b a0 a1 a2 a3 l4 l5 l6 first first upt 40) (k : Nat) (hk : k < La.length) : TimeK b a0 a1 a2 a3 l4 l5 l6 first upt La k (rd La k) := by
  have hT : TimesP b a0 a1 a2 a3 l4 l5 l6 first upt La := by rw [hL]; exact times_pure e
  obtain ⟨hb, ⟨f0, f1⟩, -⟩ := expE_zero e
  have hg := rd_get hk
  have hm := List.mem_of_getElem? hg
  obtain ⟨d, d0, d1, d2, d3⟩ := hT.day _ hm
  have hlt := hT.lt _ hm
  have hprev : 1 ≤ k → La[k - 1]? = some (rd La ((k : Int) - 1)) := fun h => by
    have := rd_get (L := La) (k := k - 1) (by omega)
    rw [show ((k - 1 : Nat) : Int) = (k : Int) - 1 from by omega] at this
    exact this
  have hinc : 1 ≤ k → rd La ((k : Int) - 1) < rd La k ∧ 0 ≤ rd La ((k : Int) - 1) ∧ first ≤ rd La ((k : Int) - 1) := fun h => by
    have hp := hprev h
    obtain ⟨d', p0, p1, p2, -⟩ := hT.day _ (List.mem_of_getElem? hp)
    refine ⟨?_, by omega, by omega⟩
    obtain ⟨i1, e1⟩ := List.getElem?_eq_some_iff.mp hp
    obtain ⟨i2, e2⟩ := List.getElem?_eq_some_iff.mp hg
    have := List.pairwise_iff_getElem.mp hT.srt (k - 1) k i1 i2 (by omega)
    rw [e1, e2] at this
    exact this
  have hS1 : isDayS (first / 86400) = true := (isDayS_iff _).mpr ⟨by omega, by omega⟩
  refine ⟨rfl, by omega, hlt, by omega, by omega, fun h => hT.unt _ hm (by omega), fun h => ?_, hinc, fun h => ?_, fun h x h1 h2 => ?_⟩
  · subst h
    exact hT.head _ hg
  · obtain ⟨q1, q2, q3⟩ := hinc h
    have hne : d ≠ first / 86400 := by omega
    have hday : rd La k / 86400 = d := by omega
    rw [hday]
    have hv : matchV a0 a1 l4 l5 l6 (first / 86400) d = true := by
      unfold hitV at d3
      rw [Bool.or_eq_true, beq_iff_eq] at d3
      exact d3.resolve_left hne
    have hS2 : isDayS d = true := (isDayS_iff _).mpr ⟨by omega, by omega⟩
    exact ⟨by unfold MatchB; rw [hb, hS1, hS2, hv]; rfl, by unfold MatchE; rw [if_pos hb, if_pos ⟨hS1, hS2⟩]⟩
  · obtain ⟨q1, q2, q3⟩ := hinc h
    have hS2 : isDayS x = true := (isDayS_iff _).mpr ⟨by omega, by omega⟩
    have hp := hprev h
    have hk1 : k - 1 + 1 = k := by omega
    have hg' := hg
    rw [← hk1] at hg'
    have hv := hT.gap (k - 1) _ _ hp hg' x h1 (by rw [hk1]; exact h2)
    exact ⟨by unfold MatchB; rw [hv]; simp, by unfold MatchE; rw [if_pos hb, if_pos ⟨hS1, hS2⟩]⟩

theorem quo_w {x : Int} (h0 : 0 ≤ x) (h1 : x ≤ 9223372036854775807) : IntKind.i64.wrap (x.tdiv 86400) = x / 86400 := by
  rw [Int.tdiv_eq_ediv_of_nonneg h0, IntKind.wrap_i64]; omega
theorem match_at {a0 a1 a2 a3 : Int} {A4 A5 A6 : Option Addr} {c4 c5 c6 : Nat} {l4 l5 : List Int} {l6 : List S59} {b v : Bool} (hb : b = true ↔ RightP a0 a1 a2 a3 l4 l5 l6) {first day first' day' : Int} (hv : MatchB b a0 a1 l4 l5 l6 first day = v ∧ MatchE b first day = 0) (hf : first' = first) (hd : day' = day) {w : World} (h : Lists w A4 A5 A6 c4 c5 c6 l4 l5 l6)
    (h4 : l4.length ≤ 1000000000) (h5 : l5.length ≤ 1000000000) (h6 : l6.length ≤ 1000000000) :
    Calls Tryz.prog 12 #[.agg #[.int .i64 a0, .int .i64 a1, .int .i64 a2, .int .i64 a3, .slice A4 l4.length c4, .slice A5 l5.length c5, .slice A6 l6.length c6], .int .i64 first', .int .i64 day'] w fun e w' =>
      e = .returned (.tuple #[.bool v, .int .i64 0]) ∧ Below w.heap.size w w' := by
  subst hf hd
  have := rec_match_c hb (first := first') (day := day') h h4 h5 h6
  rw [hv.1, hv.2] at this
  exact this

set_option maxRecDepth 100000 in
set_option maxHeartbeats 8000000 in
theorem law_times {G : World → Prop} (hA : AliveC G) {a0 a1 a2 a3 : Int} {A4 A5 A6 : Option Addr} {c4 c5 c6 : Nat} {l4 l5 : List Int} {l6 : List S59} {w : World} (h : Lists w A4 A5 A6 c4 c5 c6 l4 l5 l6) (m4 : l4.length ≤ maxLen) (m5 : l5.length ≤ maxLen) (hl : (l4.length + l5.length : Int) ≤ 9223372036854775807)
    (first upt : Int) (hf0 : -9223372036854775808 ≤ first) (hu : upt ≤ 9223372036854775807) (hg : G w) :
    Calls Tryz.prog 5 #[.agg #[.int .i64 a0, .int .i64 a1, .int .i64 a2, .int .i64 a3, .slice A4 l4.length c4, .slice A5 l5.length c5, .slice A6 l6.length c6], .int .i64 first, .int .i64 upt] w fun e w' =>
      e = .returned (.bool true) ∧ Below w.heap.size w w' := by
  have HL := Aside0.mk h
  have HG := Aside0.mk hg
  have HA := Aside0.mk hA
  have HF : Aside0 (-9223372036854775808 ≤ first ∧ upt ≤ 9223372036854775807) := ⟨⟨hf0, hu⟩⟩
  clear h hg hA hf0 hu
  have HB := Aside0.mk ((Below.refl w.heap.size w).alloc (Nat.le_refl _) (.cells #[.int .i64 a0, .int .i64 a1, .int .i64 a2, .int .i64 a3, .slice A4 l4.length c4, .slice A5 l5.length c5, .slice A6 l6.length c6] 25))
  have hz : w.heap.size < (w.alloc (.cells #[.int .i64 a0, .int .i64 a1, .int .i64 a2, .int .i64 a3, .slice A4 l4.length c4, .slice A5 l5.length c5, .slice A6 l6.length c6] 25)).heap.size := by simp
  have HX0 := Aside0.mk (heap_alloc_new w (.cells #[.int .i64 a0, .int .i64 a1, .int .i64 a2, .int .i64 a3, .slice A4 l4.length c4, .slice A5 l5.length c5, .slice A6 l6.length c6] 25))
  have HM : Aside0 (l4.length ≤ maxLen ∧ l5.length ≤ maxLen ∧ (l4.length + l5.length : Int) ≤ 9223372036854775807) := ⟨⟨m4, m5, hl⟩⟩
  clear m4 m5 hl
  obtain ⟨b, HBB⟩ : ∃ b : Bool, Aside0 (b = true ↔ RightP a0 a1 a2 a3 l4 l5 l6) := by
    classical
    exact ⟨decide (RightP a0 a1 a2 a3 l4 l5 l6), ⟨by simp⟩⟩
  by_cases hgr : greatB l4 l5 l6 = true
  · go_enter Tryz.func5, Tryz.ntmps5
    go_wp2_with (first
      | (go_at_call 10; refine (great_c (HL.out.below HB.out) HM.out.1 HM.out.2.1 HM.out.2.2).mono ?_; rintro e w2 ⟨rfl, hb2⟩; obtain ⟨hc2, hf2⟩ := bcell hb2; have hz : w.heap.size < w2.heap.size := Nat.lt_of_lt_of_le hz hb2.size; have HX1 := Aside0.mk ((hb2.block w.heap.size (blk_lt HX0.out)).trans HX0.out); have HB' := Aside0.mk (HB.out.trans (hb2.mono HB.out.size)); clear HB hb2 HX0; have HB := HB'; have HX0 := HX1; clear HB' HX1)
      | (go_at_call 11; refine (HA.out.calls (HA.out.mono HG.out HB.out)).mono ?_; rintro e w2 ⟨rfl, hb2⟩; obtain ⟨hc2, hf2⟩ := bcell hb2; have hz : w.heap.size < w2.heap.size := Nat.lt_of_lt_of_le hz hb2.size; have HX1 := Aside0.mk ((hb2.block w.heap.size (blk_lt HX0.out)).trans HX0.out); have HB' := Aside0.mk (HB.out.trans (hb2.mono HB.out.size)); clear HB hb2 HX0; have HB := HB'; have HX0 := HX1; clear HB' HX1))
    go_ret
    exact ⟨rfl, HB.out⟩
  have hgr' : greatB l4 l5 l6 = false := by simpa using hgr
  clear hgr
  obtain ⟨g4, g5, g6⟩ := greatB_len hgr'
  by_cases hfr : farB first upt = true
  · go_enter Tryz.func5, Tryz.ntmps5
    go_wp2_with (first
      | (go_at_call 10; refine (great_c (HL.out.below HB.out) HM.out.1 HM.out.2.1 HM.out.2.2).mono ?_; rintro e w2 ⟨rfl, hb2⟩; obtain ⟨hc2, hf2⟩ := bcell hb2; have hz : w.heap.size < w2.heap.size := Nat.lt_of_lt_of_le hz hb2.size; have HX1 := Aside0.mk ((hb2.block w.heap.size (blk_lt HX0.out)).trans HX0.out); have HB' := Aside0.mk (HB.out.trans (hb2.mono HB.out.size)); clear HB hb2 HX0; have HB := HB'; have HX0 := HX1; clear HB' HX1)
      | (go_at_call 15; refine (far_c first upt _ HF.out.1 HF.out.2).mono ?_; rintro e w2 ⟨rfl, hb2⟩; obtain ⟨hc2, hf2⟩ := bcell hb2; have hz : w.heap.size < w2.heap.size := Nat.lt_of_lt_of_le hz hb2.size; have HX1 := Aside0.mk ((hb2.block w.heap.size (blk_lt HX0.out)).trans HX0.out); have HB' := Aside0.mk (HB.out.trans (hb2.mono HB.out.size)); clear HB hb2 HX0; have HB := HB'; have HX0 := HX1; clear HB' HX1)
      | (go_at_call 11; refine (HA.out.calls (HA.out.mono HG.out HB.out)).mono ?_; rintro e w2 ⟨rfl, hb2⟩; obtain ⟨hc2, hf2⟩ := bcell hb2; have hz : w.heap.size < w2.heap.size := Nat.lt_of_lt_of_le hz hb2.size; have HX1 := Aside0.mk ((hb2.block w.heap.size (blk_lt HX0.out)).trans HX0.out); have HB' := Aside0.mk (HB.out.trans (hb2.mono HB.out.size)); clear HB hb2 HX0; have HB := HB'; have HX0 := HX1; clear HB' HX1))
    go_ret
    exact ⟨rfl, HB.out⟩
  have hfr' : farB first upt = false := by simpa using hfr
  clear hfr
  by_cases n1 : expE b first first upt 40 = 0
  · go_enter Tryz.func5, Tryz.ntmps5
    go_wp2_with (first
      | (go_at_call 10; refine (great_c (HL.out.below HB.out) HM.out.1 HM.out.2.1 HM.out.2.2).mono ?_; rintro e w2 ⟨rfl, hb2⟩; obtain ⟨hc2, hf2⟩ := bcell hb2; have hz : w.heap.size < w2.heap.size := Nat.lt_of_lt_of_le hz hb2.size; have HX1 := Aside0.mk ((hb2.block w.heap.size (blk_lt HX0.out)).trans HX0.out); have HB' := Aside0.mk (HB.out.trans (hb2.mono HB.out.size)); clear HB hb2 HX0; have HB := HB'; have HX0 := HX1; clear HB' HX1)
      | (go_at_call 15; refine (far_c first upt _ HF.out.1 HF.out.2).mono ?_; rintro e w2 ⟨rfl, hb2⟩; obtain ⟨hc2, hf2⟩ := bcell hb2; have hz : w.heap.size < w2.heap.size := Nat.lt_of_lt_of_le hz hb2.size; have HX1 := Aside0.mk ((hb2.block w.heap.size (blk_lt HX0.out)).trans HX0.out); have HB' := Aside0.mk (HB.out.trans (hb2.mono HB.out.size)); clear HB hb2 HX0; have HB := HB'; have HX0 := HX1; clear HB' HX1))
    refine (rec_expand_c HBB.out (HL.out.below HB.out) (by omega) (by omega) (by omega)).mono ?_
    rintro e wa ⟨La, Aa, ca, HLa, rfl, HCa, hb2⟩
    have HXa := Aside0.mk ((hb2.block w.heap.size (blk_lt HX0.out)).trans HX0.out)
    have hza : w.heap.size < wa.heap.size := blk_lt HXa.out
    have HB' := Aside0.mk (HB.out.trans (hb2.mono HB.out.size))
    clear HB hb2 HX0
    have HB := HB'
    clear HB'
    have hlen : La.length ≤ 1000 := by rw [HLa.out]; exact expV_len _ _ _ _ _ _ _ _ _ _ _ _
    have HK : Aside0 (∀ k : Nat, k < La.length → TimeK b a0 a1 a2 a3 l4 l5 l6 first upt La k (rd La k)) := ⟨fun k hk => timeK n1 HLa.out k hk⟩
    have HCN : Aside0 (0 < a2 → (La.length : Int) ≤ a2) := ⟨by rw [HLa.out]; exact (times_pure n1).cnt⟩
    obtain ⟨hbt, ⟨f0, f1⟩, -, ⟨u0, u1⟩, -⟩ := expE_zero n1
    have hi0 : 0 ≤ a2 := (HBB.out.mp hbt).c0
    rw [n1]
    go_wp2_with fail
    go_loopw [9] (fun i wr => ∃ k : Nat, k ≤ La.length ∧ i = .int .i64 k ∧ Below wa.heap.size wa wr) (fun i _ => La.length - (intOf i).toNat)
    case atStart => exact ⟨0, Nat.zero_le _, rfl, Below.refl _ _⟩
    case round =>
      obtain ⟨k, hk, rfl, hbr⟩ := hrel
      have HBR := Aside0.mk hbr
      have HXr := Aside0.mk ((hbr.block w.heap.size (blk_lt HXa.out)).trans HXa.out)
      have HCr := Aside0.mk (And.intro (Kd.C_below HCa.out.1 hbr) HCa.out.2)
      have hzr : w.heap.size < wr.heap.size := blk_lt HXr.out
      have HB' := Aside0.mk (HB.out.trans (hbr.mono HB.out.size))
      clear hbr
      have hcap : La.length ≤ ca := HCa.out.2
      by_cases hlt : k < La.length
      · have HT := Aside0.mk (HK.out k hlt)
        obtain ⟨t, ht⟩ : ∃ t, t = rd La k := ⟨_, rfl⟩
        rw [← ht] at HT
        obtain ⟨ad, hAd, hcl⟩ := Kd.at_int HCr.out.1 (k : Int) (by omega) (by omega)
        rw [← ht] at hcl
        clear ht
        have t1 := HT.out.lo
        have t2 := HT.out.hi
        have t3 := HT.out.top
        by_cases h0k : k = 0
        · have t0 := HT.out.fst h0k
          subst h0k
          subst t0
          subst hAd
          have hcl0 : wr.cell? ad = some (.int .i64 t) := by have h := hcl; rw [show ((0 : Nat) : Int).toNat = 0 from rfl, Addr.add_zero'] at h; exact h
          have p0 : (0 : Int) < (La.length : Int) := by omega
          go_wp2_with fail
          go_roundw
          case rel => exact ⟨1, by omega, rfl, HBR.out⟩
          case measure => simp [intOf]; omega
        · have h1k : 1 ≤ k := by omega
          have hk0 : ((k : Int) == 0) = false := by rw [beq_eq_false_iff_ne]; omega
          obtain ⟨i1, i2, i3⟩ := HT.out.inc h1k
          obtain ⟨ad', hAd', hcs⟩ := Kd.at_int HCr.out.1 ((k : Int) - 1) (by omega) (by omega)
          subst hAd
          injection hAd' with hAd'
          subst hAd'
          obtain ⟨s, hs⟩ : ∃ s, s = rd La ((k : Int) - 1) := ⟨_, rfl⟩
          have HYES := Aside0.mk (HT.out.yes h1k)
          have HNO := Aside0.mk (HT.out.no h1k)
          rw [← hs] at hcs i1 i2 i3 HNO
          have HS := Aside0.mk hs
          clear hs
          have hrem := HT.out.rem
          have hrem2 : ((t - first).tmod 86400 == 0) = true := by rw [beq_iff_eq, Int.tmod_eq_emod_of_nonneg (by omega)]; exact hrem
          rw [show ((k : Int)).toNat = k from by omega] at hcl
          rw [show ((k : Int) - 1).toNat = k - 1 from by omega] at hcs
          have p1 : (0 : Int) ≤ (k : Int) - 1 := by omega
          have p2 : (k : Int) - 1 < (La.length : Int) := by omega
          have p3 : (k : Int) < (La.length : Int) := by omega
          have xr0 : wr.cell? ⟨w.heap.size, 0, none⟩ = some (.int .i64 a0) := blk_cell HXr.out 0
          have xr1 : wr.cell? ⟨w.heap.size, 1, none⟩ = some (.int .i64 a1) := blk_cell HXr.out 1
          have xr2 : wr.cell? ⟨w.heap.size, 2, none⟩ = some (.int .i64 a2) := blk_cell HXr.out 2
          have xr3 : wr.cell? ⟨w.heap.size, 3, none⟩ = some (.int .i64 a3) := blk_cell HXr.out 3
          have xr4 : wr.cell? ⟨w.heap.size, 4, none⟩ = some (.slice A4 l4.length c4) := blk_cell HXr.out 4
          have xr5 : wr.cell? ⟨w.heap.size, 5, none⟩ = some (.slice A5 l5.length c5) := blk_cell HXr.out 5
          have xr6 : wr.cell? ⟨w.heap.size, 6, none⟩ = some (.slice A6 l6.length c6) := blk_cell HXr.out 6
          have hqf : IntKind.i64.wrap (first.tdiv 86400) = first / 86400 := quo_w (by omega) (by omega)
          have hqt : IntKind.i64.wrap (t.tdiv 86400) = t / 86400 := quo_w (by omega) (by omega)
          have hqs : IntKind.i64.wrap (s.tdiv 86400) = s / 86400 := quo_w (by omega) (by omega)
          have hts : decide (t ≤ s) = false := decide_eq_false (by omega)
          by_cases h3 : 0 ≤ a3
          · have hu3 := HT.out.unt h3
            have h3d : decide (0 ≤ a3) = true := decide_eq_true h3
            have h3e : decide (a3 < t) = false := decide_eq_false (by omega)
            go_wp2_with fail
            go_quiet (fail)
            go_wp2_with fail
            obtain ⟨W1, hW1⟩ : ∃ W1, W1 = wr.drewN nq := ⟨_, rfl⟩
            rw [← hW1]
            have hd : Below wr.heap.size wr W1 := by rw [hW1]; exact pw_below_drewN (Below.refl _ _) _
            clear hW1 hcl hcs xr0 xr1 xr2 xr3 xr4 xr5 xr6
            have HX1 := Aside0.mk ((hd.block w.heap.size (blk_lt HXr.out)).trans HXr.out)
            have HC1 := Aside0.mk (And.intro (Kd.C_below HCr.out.1 hd) HCr.out.2)
            have hz1 : w.heap.size < W1.heap.size := blk_lt HX1.out
            have HB1 := Aside0.mk (HB'.out.trans (hd.mono HB'.out.size))
            have HR1 := Aside0.mk (HBR.out.trans (hd.mono HBR.out.size))
            obtain ⟨ad1, hA1, hcl⟩ := Kd.at_int HC1.out.1 (k : Int) (by omega) (by omega)
            injection hA1 with hA1
            subst hA1
            obtain ⟨ad1, hA1, hcs⟩ := Kd.at_int HC1.out.1 ((k : Int) - 1) (by omega) (by omega)
            injection hA1 with hA1
            subst hA1
            rw [show ((k : Int)).toNat = k from by omega, ← HT.out.eq] at hcl
            rw [show ((k : Int) - 1).toNat = k - 1 from by omega, ← HS.out] at hcs
            have xr0 : W1.cell? ⟨w.heap.size, 0, none⟩ = some (.int .i64 a0) := blk_cell HX1.out 0
            have xr1 : W1.cell? ⟨w.heap.size, 1, none⟩ = some (.int .i64 a1) := blk_cell HX1.out 1
            have xr2 : W1.cell? ⟨w.heap.size, 2, none⟩ = some (.int .i64 a2) := blk_cell HX1.out 2
            have xr3 : W1.cell? ⟨w.heap.size, 3, none⟩ = some (.int .i64 a3) := blk_cell HX1.out 3
            have xr4 : W1.cell? ⟨w.heap.size, 4, none⟩ = some (.slice A4 l4.length c4) := blk_cell HX1.out 4
            have xr5 : W1.cell? ⟨w.heap.size, 5, none⟩ = some (.slice A5 l5.length c5) := blk_cell HX1.out 5
            have xr6 : W1.cell? ⟨w.heap.size, 6, none⟩ = some (.slice A6 l6.length c6) := blk_cell HX1.out 6
            go_region_with (go_at_call 12; refine (match_at HBB.out HYES.out (by first | rfl | exact hqf) (by first | rfl | exact hqt) (HL.out.below (by first | exact HB1.out | exact HB1.out.drew)) (by omega) (by omega) (by omega)).mono ?_; rintro e w3 ⟨rfl, hb3⟩)
            all_goals (
              have hb3' : Below W1.heap.size W1 w3 := (by first | exact hb3 | exact ((Below.refl _ W1).drew).trans hb3)
              clear hb3
              have HX3 := Aside0.mk ((hb3'.block w.heap.size (blk_lt HX1.out)).trans HX1.out)
              have HC3 := Aside0.mk (And.intro (Kd.C_below HC1.out.1 hb3') HC1.out.2)
              have hz3 : w.heap.size < w3.heap.size := blk_lt HX3.out
              have HB3 := Aside0.mk (HB1.out.trans (hb3'.mono HB1.out.size))
              have HR3 := Aside0.mk (HR1.out.trans (hb3'.mono HR1.out.size))
              clear hb3' hcl hcs xr0 xr1 xr2 xr3 xr4 xr5 xr6
              obtain ⟨ad1, hA1, hcl⟩ := Kd.at_int HC3.out.1 (k : Int) (by omega) (by omega)
              injection hA1 with hA1
              subst hA1
              obtain ⟨ad1, hA1, hcs⟩ := Kd.at_int HC3.out.1 ((k : Int) - 1) (by omega) (by omega)
              injection hA1 with hA1
              subst hA1
              rw [show ((k : Int)).toNat = k from by omega, ← HT.out.eq] at hcl
              rw [show ((k : Int) - 1).toNat = k - 1 from by omega, ← HS.out] at hcs
              go_wp2_with fail
              go_loopw [12] (fun d wq => ∃ x : Int, s / 86400 + 1 ≤ x ∧ x ≤ 2932897 ∧ d = .int .i64 x ∧ Below w3.heap.size w3 wq) (fun d _ => (t / 86400 - intOf d).toNat)
              case atStart => exact ⟨s / 86400 + 1, by omega, by omega, by go_num, Below.refl _ _⟩
              case round =>
                obtain ⟨x, x0, x1, rfl, hbq⟩ := hrel
                have HXq := Aside0.mk ((hbq.block w.heap.size (blk_lt HX3.out)).trans HX3.out)
                have HCq := Aside0.mk (And.intro (Kd.C_below HC3.out.1 hbq) HC3.out.2)
                have hzq : w.heap.size < wr.heap.size := blk_lt HXq.out
                have HBq := Aside0.mk (HB3.out.trans (hbq.mono HB3.out.size))
                have HRq := Aside0.mk (HR3.out.trans (hbq.mono HR3.out.size))
                have HQ := Aside0.mk hbq
                clear hbq hcl hcs
                obtain ⟨ad1, hA1, hcl⟩ := Kd.at_int HCq.out.1 (k : Int) (by omega) (by omega)
                injection hA1 with hA1
                subst hA1
                obtain ⟨ad1, hA1, hcs⟩ := Kd.at_int HCq.out.1 ((k : Int) - 1) (by omega) (by omega)
                injection hA1 with hA1
                subst hA1
                rw [show ((k : Int)).toNat = k from by omega, ← HT.out.eq] at hcl
                rw [show ((k : Int) - 1).toNat = k - 1 from by omega, ← HS.out] at hcs
                have xq0 : wr.cell? ⟨w.heap.size, 0, none⟩ = some (.int .i64 a0) := blk_cell HXq.out 0
                have xq1 : wr.cell? ⟨w.heap.size, 1, none⟩ = some (.int .i64 a1) := blk_cell HXq.out 1
                have xq2 : wr.cell? ⟨w.heap.size, 2, none⟩ = some (.int .i64 a2) := blk_cell HXq.out 2
                have xq3 : wr.cell? ⟨w.heap.size, 3, none⟩ = some (.int .i64 a3) := blk_cell HXq.out 3
                have xq4 : wr.cell? ⟨w.heap.size, 4, none⟩ = some (.slice A4 l4.length c4) := blk_cell HXq.out 4
                have xq5 : wr.cell? ⟨w.heap.size, 5, none⟩ = some (.slice A5 l5.length c5) := blk_cell HXq.out 5
                have xq6 : wr.cell? ⟨w.heap.size, 6, none⟩ = some (.slice A6 l6.length c6) := blk_cell HXq.out 6
                by_cases hx1 : x < t / 86400
                · by_cases hx2 : x < s / 86400 + 60
                  · have HMX := Aside0.mk (HNO.out x (by omega) hx1)
                    go_wp2_with (go_at_call 12; refine (match_at HBB.out HMX.out (by first | rfl | exact hqf) rfl (HL.out.below HBq.out) (by omega) (by omega) (by omega)).mono ?_; rintro e w5 ⟨rfl, hb5⟩)
                    go_roundw
                    case rel => exact ⟨x + 1, by omega, by omega, by go_num, HQ.out.trans (hb5.mono HQ.out.size)⟩
                    case measure => simp [intOf]; omega
                  · go_wp2_with fail
                    go_roundw
                    case rel => exact ⟨k + 1, by omega, by go_num, HRq.out⟩
                    case measure => simp [intOf]; omega
                · go_wp2_with fail
                  go_roundw
                  case rel => exact ⟨k + 1, by omega, by go_num, HRq.out⟩
                  case measure => simp [intOf]; omega)
          · have h3d : decide (0 ≤ a3) = false := decide_eq_false h3
            go_wp2_with fail
            go_quiet (fail)
            go_wp2_with fail
            obtain ⟨W1, hW1⟩ : ∃ W1, W1 = wr.drewN nq := ⟨_, rfl⟩
            rw [← hW1]
            have hd : Below wr.heap.size wr W1 := by rw [hW1]; exact pw_below_drewN (Below.refl _ _) _
            clear hW1 hcl hcs xr0 xr1 xr2 xr3 xr4 xr5 xr6
            have HX1 := Aside0.mk ((hd.block w.heap.size (blk_lt HXr.out)).trans HXr.out)
            have HC1 := Aside0.mk (And.intro (Kd.C_below HCr.out.1 hd) HCr.out.2)
            have hz1 : w.heap.size < W1.heap.size := blk_lt HX1.out
            have HB1 := Aside0.mk (HB'.out.trans (hd.mono HB'.out.size))
            have HR1 := Aside0.mk (HBR.out.trans (hd.mono HBR.out.size))
            obtain ⟨ad1, hA1, hcl⟩ := Kd.at_int HC1.out.1 (k : Int) (by omega) (by omega)
            injection hA1 with hA1
            subst hA1
            obtain ⟨ad1, hA1, hcs⟩ := Kd.at_int HC1.out.1 ((k : Int) - 1) (by omega) (by omega)
            injection hA1 with hA1
            subst hA1
            rw [show ((k : Int)).toNat = k from by omega, ← HT.out.eq] at hcl
            rw [show ((k : Int) - 1).toNat = k - 1 from by omega, ← HS.out] at hcs
            have xr0 : W1.cell? ⟨w.heap.size, 0, none⟩ = some (.int .i64 a0) := blk_cell HX1.out 0
            have xr1 : W1.cell? ⟨w.heap.size, 1, none⟩ = some (.int .i64 a1) := blk_cell HX1.out 1
            have xr2 : W1.cell? ⟨w.heap.size, 2, none⟩ = some (.int .i64 a2) := blk_cell HX1.out 2
            have xr3 : W1.cell? ⟨w.heap.size, 3, none⟩ = some (.int .i64 a3) := blk_cell HX1.out 3
            have xr4 : W1.cell? ⟨w.heap.size, 4, none⟩ = some (.slice A4 l4.length c4) := blk_cell HX1.out 4
            have xr5 : W1.cell? ⟨w.heap.size, 5, none⟩ = some (.slice A5 l5.length c5) := blk_cell HX1.out 5
            have xr6 : W1.cell? ⟨w.heap.size, 6, none⟩ = some (.slice A6 l6.length c6) := blk_cell HX1.out 6
            go_region_with (go_at_call 12; refine (match_at HBB.out HYES.out (by first | rfl | exact hqf) (by first | rfl | exact hqt) (HL.out.below (by first | exact HB1.out | exact HB1.out.drew)) (by omega) (by omega) (by omega)).mono ?_; rintro e w3 ⟨rfl, hb3⟩)
            all_goals (
              have hb3' : Below W1.heap.size W1 w3 := (by first | exact hb3 | exact ((Below.refl _ W1).drew).trans hb3)
              clear hb3
              have HX3 := Aside0.mk ((hb3'.block w.heap.size (blk_lt HX1.out)).trans HX1.out)
              have HC3 := Aside0.mk (And.intro (Kd.C_below HC1.out.1 hb3') HC1.out.2)
              have hz3 : w.heap.size < w3.heap.size := blk_lt HX3.out
              have HB3 := Aside0.mk (HB1.out.trans (hb3'.mono HB1.out.size))
              have HR3 := Aside0.mk (HR1.out.trans (hb3'.mono HR1.out.size))
              clear hb3' hcl hcs xr0 xr1 xr2 xr3 xr4 xr5 xr6
              obtain ⟨ad1, hA1, hcl⟩ := Kd.at_int HC3.out.1 (k : Int) (by omega) (by omega)
              injection hA1 with hA1
              subst hA1
              obtain ⟨ad1, hA1, hcs⟩ := Kd.at_int HC3.out.1 ((k : Int) - 1) (by omega) (by omega)
              injection hA1 with hA1
              subst hA1
              rw [show ((k : Int)).toNat = k from by omega, ← HT.out.eq] at hcl
              rw [show ((k : Int) - 1).toNat = k - 1 from by omega, ← HS.out] at hcs
              go_wp2_with fail
              go_loopw [12] (fun d wq => ∃ x : Int, s / 86400 + 1 ≤ x ∧ x ≤ 2932897 ∧ d = .int .i64 x ∧ Below w3.heap.size w3 wq) (fun d _ => (t / 86400 - intOf d).toNat)
              case atStart => exact ⟨s / 86400 + 1, by omega, by omega, by go_num, Below.refl _ _⟩
              case round =>
                obtain ⟨x, x0, x1, rfl, hbq⟩ := hrel
                have HXq := Aside0.mk ((hbq.block w.heap.size (blk_lt HX3.out)).trans HX3.out)
                have HCq := Aside0.mk (And.intro (Kd.C_below HC3.out.1 hbq) HC3.out.2)
                have hzq : w.heap.size < wr.heap.size := blk_lt HXq.out
                have HBq := Aside0.mk (HB3.out.trans (hbq.mono HB3.out.size))
                have HRq := Aside0.mk (HR3.out.trans (hbq.mono HR3.out.size))
                have HQ := Aside0.mk hbq
                clear hbq hcl hcs
                obtain ⟨ad1, hA1, hcl⟩ := Kd.at_int HCq.out.1 (k : Int) (by omega) (by omega)
                injection hA1 with hA1
                subst hA1
                obtain ⟨ad1, hA1, hcs⟩ := Kd.at_int HCq.out.1 ((k : Int) - 1) (by omega) (by omega)
                injection hA1 with hA1
                subst hA1
                rw [show ((k : Int)).toNat = k from by omega, ← HT.out.eq] at hcl
                rw [show ((k : Int) - 1).toNat = k - 1 from by omega, ← HS.out] at hcs
                have xq0 : wr.cell? ⟨w.heap.size, 0, none⟩ = some (.int .i64 a0) := blk_cell HXq.out 0
                have xq1 : wr.cell? ⟨w.heap.size, 1, none⟩ = some (.int .i64 a1) := blk_cell HXq.out 1
                have xq2 : wr.cell? ⟨w.heap.size, 2, none⟩ = some (.int .i64 a2) := blk_cell HXq.out 2
                have xq3 : wr.cell? ⟨w.heap.size, 3, none⟩ = some (.int .i64 a3) := blk_cell HXq.out 3
                have xq4 : wr.cell? ⟨w.heap.size, 4, none⟩ = some (.slice A4 l4.length c4) := blk_cell HXq.out 4
                have xq5 : wr.cell? ⟨w.heap.size, 5, none⟩ = some (.slice A5 l5.length c5) := blk_cell HXq.out 5
                have xq6 : wr.cell? ⟨w.heap.size, 6, none⟩ = some (.slice A6 l6.length c6) := blk_cell HXq.out 6
                by_cases hx1 : x < t / 86400
                · by_cases hx2 : x < s / 86400 + 60
                  · have HMX := Aside0.mk (HNO.out x (by omega) hx1)
                    go_wp2_with (go_at_call 12; refine (match_at HBB.out HMX.out (by first | rfl | exact hqf) rfl (HL.out.below HBq.out) (by omega) (by omega) (by omega)).mono ?_; rintro e w5 ⟨rfl, hb5⟩)
                    go_roundw
                    case rel => exact ⟨x + 1, by omega, by omega, by go_num, HQ.out.trans (hb5.mono HQ.out.size)⟩
                    case measure => simp [intOf]; omega
                  · go_wp2_with fail
                    go_roundw
                    case rel => exact ⟨k + 1, by omega, by go_num, HRq.out⟩
                    case measure => simp [intOf]; omega
                · go_wp2_with fail
                  go_roundw
                  case rel => exact ⟨k + 1, by omega, by go_num, HRq.out⟩
                  case measure => simp [intOf]; omega)
      · obtain rfl : k = La.length := by omega
        have HCN := HCN.out
        by_cases hc0 : a2 = 0
        · have hc0b : (a2 == 0) = true := beq_iff_eq.mpr hc0
          go_wp2_with (go_at_call 11; refine (HA.out.calls (HA.out.mono HG.out HB'.out)).mono ?_; rintro e we ⟨rfl, hbe⟩; have xe2 : we.cell? ⟨w.heap.size, 2, none⟩ = some (.int .i64 a2) := blk_cell ((hbe.block w.heap.size (blk_lt HXr.out)).trans HXr.out) 2)
          go_ret
          exact ⟨ret_bool (by simp [hc0]), HB'.out.trans (hbe.mono HB'.out.size)⟩
        · have hc0b : (a2 == 0) = false := beq_eq_false_iff_ne.mpr hc0
          have hle : decide ((La.length : Int) ≤ a2) = true := decide_eq_true (HCN (by omega))
          go_wp2_with (go_at_call 11; refine (HA.out.calls (HA.out.mono HG.out HB'.out)).mono ?_; rintro e we ⟨rfl, hbe⟩; have xe2 : we.cell? ⟨w.heap.size, 2, none⟩ = some (.int .i64 a2) := blk_cell ((hbe.block w.heap.size (blk_lt HXr.out)).trans HXr.out) 2)
          go_ret
          exact ⟨ret_bool (by simp [hle]), HB'.out.trans (hbe.mono HB'.out.size)⟩
  · have hne : (expE b first first upt 40 != 0) = true := bne_iff_ne.mpr n1
    go_enter Tryz.func5, Tryz.ntmps5
    go_wp2_with (first
      | (go_at_call 10; refine (great_c (HL.out.below HB.out) HM.out.1 HM.out.2.1 HM.out.2.2).mono ?_; rintro e w2 ⟨rfl, hb2⟩; obtain ⟨hc2, hf2⟩ := bcell hb2; have hz : w.heap.size < w2.heap.size := Nat.lt_of_lt_of_le hz hb2.size; have HX1 := Aside0.mk ((hb2.block w.heap.size (blk_lt HX0.out)).trans HX0.out); have HB' := Aside0.mk (HB.out.trans (hb2.mono HB.out.size)); clear HB hb2 HX0; have HB := HB'; have HX0 := HX1; clear HB' HX1)
      | (go_at_call 15; refine (far_c first upt _ HF.out.1 HF.out.2).mono ?_; rintro e w2 ⟨rfl, hb2⟩; obtain ⟨hc2, hf2⟩ := bcell hb2; have hz : w.heap.size < w2.heap.size := Nat.lt_of_lt_of_le hz hb2.size; have HX1 := Aside0.mk ((hb2.block w.heap.size (blk_lt HX0.out)).trans HX0.out); have HB' := Aside0.mk (HB.out.trans (hb2.mono HB.out.size)); clear HB hb2 HX0; have HB := HB'; have HX0 := HX1; clear HB' HX1))
    refine (rec_expand_c HBB.out (HL.out.below HB.out) (by omega) (by omega) (by omega)).mono ?_
    rintro e wa ⟨La, Aa, ca, HLa, rfl, HCa, hb2⟩
    have hL0 : La.length = 0 := by rw [HLa.out]; unfold expV; rw [if_neg n1]; rfl
    have h0' : ((La.length : Int) == 0) = true := by rw [beq_iff_eq]; omega
    have HXa := Aside0.mk ((hb2.block w.heap.size (blk_lt HX0.out)).trans HX0.out)
    have hza : w.heap.size < wa.heap.size := blk_lt HXa.out
    have HB' := Aside0.mk (HB.out.trans (hb2.mono HB.out.size))
    clear HB hb2 HX0 hL0 HLa
    have HB := HB'
    clear HB'
    go_wp2_with (go_at_call 11; refine (HA.out.calls (HA.out.mono HG.out HB.out)).mono ?_; rintro e we ⟨rfl, hbe⟩)
    go_ret
    exact ⟨ret_bool (by simp), HB.out.trans (hbe.mono HB.out.size)⟩
end Go.Proofs.YtfbmjonhohebiaaGreatDoor
