/- Texts merged: what the law needs, and no more. -/
import Derived.Test.YtfbmjonhohebiaaGreatDoorQwg
import Derived.Test.YtfbmjonhohebiaaGreatDoorQwh
import Derived.Maps.OwnSet
import Derived.Laws.ResultCell
import Derived.RangeFuncBox
import Derived.RangeFuncNested
import Derived.RangeFuncBound
import Derived.RangeFuncCalls
import Derived.RangeFuncLeaves
import Derived.Shelf.Abstract
import Derived.OwnWalkIn
import Derived.TacticsInMore
import Derived.LoopNIn
import Derived.LoopIn
section
set_option linter.unusedVariables false
set_option linter.unusedSimpArgs false
namespace Go.Proofs.YtfbmjonhohebiaaGreatDoor
open Go.RowKit Go.Proofs.YtfbmjonhohebiaaGreatDoorW.PrintWords Go.Proofs.YtfbmjonhohebiaaGreatDoorW.PrintLast Go.Proofs.YtfbmjonhohebiaaGreatDoorW.PrintMore PRecurExpands
def wdig (c : UInt8) : Bool := decide (48 ≤ c.toNat) && decide (c.toNat ≤ 57)
def wval (l : List UInt8) : Int := l.foldl (fun n c => 10 * n + ((c.toNat : Int) - 48)) 0
def wnum (l : List UInt8) : Int := if l.isEmpty || !l.all wdig then -1 else wval l
theorem wval_snoc (l : List UInt8) (c : UInt8) : wval (l ++ [c]) = 10 * wval l + ((c.toNat : Int) - 48) := by simp [wval, List.foldl_append]
theorem wval_rng : ∀ (l : List UInt8), l.all wdig = true → 0 ≤ wval l ∧ wval l < 10 ^ l.length := by
  intro l
  generalize hn : l.length = n
  induction n generalizing l with
  | zero => intro h; rw [List.eq_nil_of_length_eq_zero hn]; simp [wval]
  | succ n ih =>
    intro h
    obtain ⟨a, c, rfl⟩ : ∃ a c, l = a ++ [c] := by
      cases h1 : l.reverse with
      | nil => simp at h1; subst h1; simp at hn
      | cons c r => exact ⟨r.reverse, c, by rw [← List.reverse_reverse l, h1]; simp⟩
    simp only [List.all_append, Bool.and_eq_true] at h
    have h1 := ih a (by simpa using hn) h.1
    have h2 : 48 ≤ c.toNat ∧ c.toNat ≤ 57 := by simpa [wdig] using h.2
    rw [wval_snoc, Int.pow_succ]
    omega
theorem wnum_bad {l : List UInt8} {k : Nat} {c : UInt8} (h : l[k]? = some c) (hc : wdig c = false) : wnum l = -1 := by
  unfold wnum
  have : l.all wdig = false := by
    rw [List.all_eq_false]
    exact ⟨c, List.mem_of_getElem? h, by rw [hc]; decide⟩
  rw [this]
  simp
set_option maxRecDepth 100000 in
set_option maxHeartbeats 2000000 in
theorem when_number (s : ByteArray) (hs : s.size ≤ 4) (w : World) :
    Calls Tryz.prog 101 #[.string s] w fun e w' => e = .returned (.int .i64 (wnum s.data.toList)) ∧ w' = w := by
  go_enter Tryz.func101, Tryz.ntmps101
  go_wp2
  go_loopw [3, 7] (fun n i wr => ∃ k : Nat, k ≤ s.size ∧ i = .int .i64 k ∧ n = .int .i64 (wval (s.data.toList.take k)) ∧ (s.data.toList.take k).all wdig = true ∧ wr = w) (fun n i _ => s.size - (intOf i).toNat)
  case atStart => exact ⟨0, by omega, rfl, rfl, rfl, rfl⟩
  case round =>
    obtain ⟨k, hk, rfl, rfl, hall, rfl⟩ := hrel
    have hl : s.data.toList.length = s.size := data_length s
    obtain ⟨q1, q2⟩ := wval_rng _ hall
    have q3 : wval (s.data.toList.take k) ≤ 9999 := by
      have : (10 : Int) ^ (s.data.toList.take k).length ≤ 10 ^ 4 := by
        have h4 : (s.data.toList.take k).length ≤ 4 := by simp [List.length_take]; omega
        exact_mod_cast Nat.pow_le_pow_right (n := 10) (by omega) h4
      omega
    clear q2
    have HALL := Aside0.mk hall
    clear hall
    by_cases hlt : k < s.size
    · have hg : s.data.toList[k]? = some s[k] := by rw [Array.getElem?_toList, Array.getElem?_eq_getElem (show k < s.data.size from hlt)]; rfl
      have hc := (s[k]).toNat_lt
      have HG := Aside0.mk hg
      clear hg
      go_wp2
      · have l1 : (s[k].toNat : Int) < 48 ∨ 57 < (s[k].toNat : Int) := by assumption
        go_ret
        exact ⟨ret_int (wnum_bad HG.out (by simp [wdig]; omega)).symm, rfl⟩
      · have l1 : 48 ≤ (s[k].toNat : Int) ∧ (s[k].toNat : Int) ≤ 57 := by assumption
        go_roundw
        case rel => exact ⟨k + 1, by omega, by go_num, by rw [List.take_add_one, HG.out]; simp only [Option.toList_some]; rw [wval_snoc], by rw [List.take_add_one, HG.out]; simp [HALL.out, wdig]; omega, trivial⟩
        case measure => simp [intOf]; omega
      · have l1 : (s[k].toNat : Int) < 48 := by assumption
        go_ret
        exact ⟨ret_int (wnum_bad HG.out (by simp [wdig]; omega)).symm, rfl⟩
    · obtain rfl : k = s.size := by omega
      rw [← hl, List.take_length] at HALL q1 q3
      have hE : s.toList.isEmpty = true ∨ s.toList.isEmpty = false := by cases s.toList.isEmpty <;> simp
      rcases hE with hE | hE
      · go_wp2
        go_ret
        exact ⟨ret_int (by unfold wnum; rw [Lib.toList_data] at hE; rw [hE]; rfl), rfl⟩
      · go_wp2
        go_ret
        exact ⟨ret_int (by unfold wnum; rw [Lib.toList_data] at hE; rw [hE, HALL.out, ← hl, List.take_length]; rfl), rfl⟩
set_option maxRecDepth 100000 in
set_option maxHeartbeats 4000000 in
theorem when_Days_low (y m d : Int) (h : y < 1970 ∨ 9999 < y ∨ m < 1 ∨ 12 < m ∨ d < 1) (w : World) :
    Calls Tryz.prog 102 #[.int .i64 y, .int .i64 m, .int .i64 d] w fun e w' => e = .returned (.tuple #[.int .i64 0, .int .i64 110]) ∧ Below w.heap.size w w' := by
  by_cases h1 : y < 1970
  · go_enter Tryz.func102, Tryz.ntmps102
    go_wp2
    go_ret2
    exact ⟨rfl, Below.refl _ _⟩
  by_cases h2 : 9999 < y
  · go_enter Tryz.func102, Tryz.ntmps102
    go_wp2
    go_ret2
    exact ⟨rfl, Below.refl _ _⟩
  by_cases h3 : m < 1
  · go_enter Tryz.func102, Tryz.ntmps102
    go_wp2
    go_ret2
    exact ⟨rfl, Below.refl _ _⟩
  by_cases h4 : 12 < m
  · go_enter Tryz.func102, Tryz.ntmps102
    go_wp2
    go_ret2
    exact ⟨rfl, Below.refl _ _⟩
  have h5 : d < 1 := by omega
  clear h
  go_enter Tryz.func102, Tryz.ntmps102
  go_wp2
  go_ret2
  exact ⟨rfl, Below.refl _ _⟩
def dayOk (y m d : Int) : Bool := decide (1970 ≤ y) && decide (y ≤ 9999) && decide (1 ≤ m) && decide (m ≤ 12) && decide (1 ≤ d) && decide (d ≤ Cal.mlen y m)
theorem when_Days_all (y m d : Int) (hd2 : d ≤ 2000000) (w : World) :
    Calls Tryz.prog 102 #[.int .i64 y, .int .i64 m, .int .i64 d] w fun e w' => e = .returned (.tuple #[.int .i64 (if dayOk y m d = true then Cal.bef y + Cal.cum y m.toNat + d - 1 else 0), .int .i64 (if dayOk y m d = true then 0 else 110)]) ∧ Below w.heap.size w w' := by
  by_cases h : y < 1970 ∨ 9999 < y ∨ m < 1 ∨ 12 < m ∨ d < 1
  · have e : dayOk y m d = false := by
      unfold dayOk
      rcases h with h | h | h | h | h
      · simp [show ¬ 1970 ≤ y by omega]
      · simp [show ¬ y ≤ 9999 by omega]
      · simp [show ¬ 1 ≤ m by omega]
      · simp [show ¬ m ≤ 12 by omega]
      · simp [show ¬ 1 ≤ d by omega]
    rw [e]
    exact when_Days_low y m d h w
  · obtain ⟨k, rfl⟩ : ∃ k : Nat, m = k := ⟨m.toNat, by omega⟩
    by_cases h6 : Cal.mlen y k < d
    · have e : dayOk y k d = false := by unfold dayOk; simp [show ¬ d ≤ Cal.mlen y k by omega]
      rw [e]
      exact when_Days_over y d k (by omega) (by omega) (by omega) (by omega) (by omega) hd2 h6 w
    · have e : dayOk y k d = true := by unfold dayOk; simp; omega
      rw [e]
      exact when_Days_ok y d k (by omega) (by omega) (by omega) (by omega) (by omega) (by omega) w
end Go.Proofs.YtfbmjonhohebiaaGreatDoor
end
section
set_option linter.unusedVariables false
set_option linter.unusedSimpArgs false
namespace Go.Proofs.YtfbmjonhohebiaaGreatDoor
open Go.RowKit Go.Proofs.YtfbmjonhohebiaaGreatDoorW.PrintWords Go.Proofs.YtfbmjonhohebiaaGreatDoorW.PrintLast Go.Proofs.YtfbmjonhohebiaaGreatDoorW.PrintMore PRecurExpands
def cutL (l : List UInt8) (a b : Nat) : List UInt8 := (l.drop a).take (b - a)
def pY (l : List UInt8) : Int := wnum (cutL l 0 4)
def pM (l : List UInt8) : Int := wnum (cutL l 4 6)
def pD (l : List UInt8) : Int := wnum (cutL l 6 8)
def ph (l : List UInt8) : Int := wnum (cutL l 9 11)
def pm (l : List UInt8) : Int := wnum (cutL l 11 13)
def ps (l : List UInt8) : Int := wnum (cutL l 13 15)
def pOk (l : List UInt8) : Bool := l.length == 16 && l[8]? == some 84 && l[15]? == some 90 && dayOk (pY l) (pM l) (pD l) && decide (0 ≤ ph l) && decide (ph l ≤ 23) && decide (0 ≤ pm l) && decide (pm l ≤ 59) && decide (0 ≤ ps l) && decide (ps l ≤ 59)
def pT (l : List UInt8) : Int := (Cal.bef (pY l) + Cal.cum (pY l) (pM l).toNat + pD l - 1) * 86400 + ph l * 3600 + pm l * 60 + ps l
theorem num_at (s : ByteArray) (a b : Nat) (hab : b - a ≤ 4) (hb : b ≤ s.size) (w : World) : Calls Tryz.prog 101 #[.string (s.extract a b)] w fun e w' => e = .returned (.int .i64 (wnum (cutL s.data.toList a b))) ∧ w' = w := by
  have h := when_number (s.extract a b) (by simp [ByteArray.size_extract]; omega) w
  have e : (s.extract a b).data.toList = cutL s.data.toList a b := by
    rw [ByteArray.data_extract, Array.toList_extract]
    simp [cutL, List.extract]
  rw [e] at h
  exact h
theorem wnum_rng (l : List UInt8) (h : l.length ≤ 4) : -1 ≤ wnum l ∧ wnum l ≤ 9999 := by
  unfold wnum
  by_cases ha : l.all wdig = true
  · rw [ha]
    obtain ⟨q1, q2⟩ := wval_rng _ ha
    have : (10 : Int) ^ l.length ≤ 10 ^ 4 := by exact_mod_cast Nat.pow_le_pow_right (n := 10) (by omega) h
    split <;> omega
  · have : l.all wdig = false := by simpa using ha
    rw [this]; simp
theorem u8_of {c : UInt8} {n : Nat} [h0 : OfNat UInt8 n] (h : (c.toNat : Int) = n) (hn : (OfNat.ofNat n : UInt8).toNat = n := by decide) : c = OfNat.ofNat n := by
  apply UInt8.toNat_inj.mp
  rw [hn]
  omega
theorem day_rng {y m d : Int} (h : dayOk y m d = true) : 0 ≤ Cal.bef y + Cal.cum y m.toNat + d - 1 ∧ Cal.bef y + Cal.cum y m.toNat + d - 1 ≤ 2932896 := by
  unfold dayOk at h
  simp at h
  obtain ⟨⟨⟨⟨⟨h1, h2⟩, h3⟩, h4⟩, h5⟩, h6⟩ := h
  obtain ⟨k, rfl⟩ : ∃ k : Nat, m = k := ⟨m.toNat, by omega⟩
  have b1 := Cal.bef_mono h1
  rw [Cal.bef_1970] at b1
  have b2 := Cal.cum_bd y k h3 (by omega)
  have b3 := Cal.cum_succ y k h3 h4
  have b4 := Cal.cum_bd y (k + 1) (by omega) (by omega)
  have b5 := Cal.bef_succ y
  have b6 := Cal.bef_mono (show y + 1 ≤ 10000 by omega)
  rw [Cal.bef_10000] at b6
  simp only [Int.toNat_natCast]
  omega
theorem cutL_len (l : List UInt8) (a b : Nat) : (cutL l a b).length ≤ b - a := by simp [cutL, List.length_take]; omega
set_option maxRecDepth 100000 in
set_option maxHeartbeats 8000000 in
theorem when_Parse (s : ByteArray) (w : World) :
    Calls Tryz.prog 75 #[.string s] w fun e w' => e = .returned (.tuple #[.int .i64 (if pOk s.data.toList = true then pT s.data.toList else 0), .int .i64 (if pOk s.data.toList = true then 0 else 110)]) ∧ Below w.heap.size w w' := by
  obtain ⟨ok, hok⟩ : ∃ ok, ok = pOk s.data.toList := ⟨_, rfl⟩
  obtain ⟨T, hT⟩ : ∃ T, T = pT s.data.toList := ⟨_, rfl⟩
  rw [← hok, ← hT]
  obtain ⟨r1, hr1⟩ : ∃ r1 : Int, r1 = if ok = true then T else 0 := ⟨_, rfl⟩
  obtain ⟨r2, hr2⟩ : ∃ r2 : Int, r2 = if ok = true then 0 else 110 := ⟨_, rfl⟩
  rw [← hr1, ← hr2]
  have HO := Aside0.mk hok
  have HT := Aside0.mk hT
  have H1 := Aside0.mk hr1
  have H2 := Aside0.mk hr2
  clear hok hT hr1 hr2
  by_cases h16 : s.size = 16
  · have g8 : s.data.toList[8]? = some (s[8]'(by omega)) := by rw [Array.getElem?_toList, Array.getElem?_eq_getElem (show 8 < s.data.size from by rw [show s.data.size = s.size from rfl]; omega)]; rfl
    have g15 : s.data.toList[15]? = some (s[15]'(by omega)) := by rw [Array.getElem?_toList, Array.getElem?_eq_getElem (show 15 < s.data.size from by rw [show s.data.size = s.size from rfl]; omega)]; rfl
    have hz8 : 8 < s.size := by omega
    have hz15 : 15 < s.size := by omega
    have G := Aside0.mk (And.intro g8 g15)
    clear g8 g15
    have hz : (s.size : Int) = 16 := by omega
    by_cases h8 : (s[8].toNat : Int) = 84
    · by_cases h15 : (s[15].toNat : Int) = 90
      · go_enter Tryz.func75, Tryz.ntmps75
        go_wp2
        go_quiet ((go_at_call 101; exact Calls.quiet_of_same (num_at s _ _ (by omega) (by omega) _)))
        go_wp2
        generalize hw1 : w.drewN _ = w1
        have hb1 : Below w.heap.size w w1 := by rw [← hw1]; exact ⟨rfl, rfl, rfl, Nat.le_refl _, fun _ _ => rfl⟩
        clear hw1
        have dl := cutL_len s.data.toList 6 8
        obtain ⟨d1, d2⟩ := wnum_rng (cutL s.data.toList 6 8) (by omega)
        have hdays := when_Days_all (wnum (cutL s.data.toList 0 4)) (wnum (cutL s.data.toList 4 6)) (wnum (cutL s.data.toList 6 8)) (by omega)
        obtain ⟨dv, hdv⟩ : ∃ dv : Int, dv = if dayOk (wnum (cutL s.data.toList 0 4)) (wnum (cutL s.data.toList 4 6)) (wnum (cutL s.data.toList 6 8)) = true then Cal.bef (wnum (cutL s.data.toList 0 4)) + Cal.cum (wnum (cutL s.data.toList 0 4)) (wnum (cutL s.data.toList 4 6)).toNat + (wnum (cutL s.data.toList 6 8)) - 1 else 0 := ⟨_, rfl⟩
        obtain ⟨de, hde⟩ : ∃ de : Int, de = if dayOk (wnum (cutL s.data.toList 0 4)) (wnum (cutL s.data.toList 4 6)) (wnum (cutL s.data.toList 6 8)) = true then 0 else 110 := ⟨_, rfl⟩
        rw [← hdv, ← hde] at hdays
        have HDV := Aside0.mk hdv
        have HDE := Aside0.mk hde
        clear hdv hde
        go_region_with (first
          | (go_at_call 101; refine (num_at s _ _ (by omega) (by omega) _).mono ?_; rintro e w' ⟨rfl, rfl⟩)
          | (go_at_call 102; refine (hdays _).mono ?_; rintro e w2 ⟨rfl, hb2⟩))
        have hb2 : Below w1.heap.size w1 w2 := ((Below.refl _ w1).drew).trans hb2
        have hb3 := hb1.trans (hb2.mono hb1.size)
        have hOK : ok = (dayOk (wnum (cutL s.data.toList 0 4)) (wnum (cutL s.data.toList 4 6)) (wnum (cutL s.data.toList 6 8)) && decide (0 ≤ wnum (cutL s.data.toList 9 11)) && decide (wnum (cutL s.data.toList 9 11) ≤ 23) && decide (0 ≤ wnum (cutL s.data.toList 11 13)) && decide (wnum (cutL s.data.toList 11 13) ≤ 59) && decide (0 ≤ wnum (cutL s.data.toList 13 15)) && decide (wnum (cutL s.data.toList 13 15) ≤ 59)) := by
          rw [HO.out]
          unfold pOk
          rw [G.out.1, G.out.2, data_length, show s[8] = 84 from u8_of h8, show s[15] = 90 from u8_of h15, h16]
          rfl
        have hTT : T = (Cal.bef (wnum (cutL s.data.toList 0 4)) + Cal.cum (wnum (cutL s.data.toList 0 4)) (wnum (cutL s.data.toList 4 6)).toNat + (wnum (cutL s.data.toList 6 8)) - 1) * 86400 + wnum (cutL s.data.toList 9 11) * 3600 + wnum (cutL s.data.toList 11 13) * 60 + wnum (cutL s.data.toList 13 15) := by rw [HT.out]; rfl
        have dl1 := cutL_len s.data.toList 9 11
        have dl2 := cutL_len s.data.toList 11 13
        have dl3 := cutL_len s.data.toList 13 15
        obtain ⟨e1, e2⟩ := wnum_rng (cutL s.data.toList 9 11) (by omega)
        obtain ⟨e3, e4⟩ := wnum_rng (cutL s.data.toList 11 13) (by omega)
        obtain ⟨e5, e6⟩ := wnum_rng (cutL s.data.toList 13 15) (by omega)
        have hde := HDE.out
        have hdv := HDV.out
        clear HDE HDV dl dl1 dl2 dl3
        obtain ⟨dk, hdk⟩ : ∃ dk, dk = dayOk (wnum (cutL s.data.toList 0 4)) (wnum (cutL s.data.toList 4 6)) (wnum (cutL s.data.toList 6 8)) := ⟨_, rfl⟩
        rw [← hdk] at hde hdv hOK
        have hdr : dk = true → 0 ≤ dv ∧ dv ≤ 2932896 := fun h => by rw [hdv, if_pos h]; rw [h] at hdk; exact day_rng hdk.symm
        generalize wnum (cutL s.data.toList 9 11) = n1 at *
        generalize wnum (cutL s.data.toList 11 13) = n2 at *
        generalize wnum (cutL s.data.toList 13 15) = n3 at *
        clear hdk
        cases dk with
        | false =>
          have HOK := Aside0.mk hOK
          clear hdr hdv hOK hTT
          simp at hde
          subst hde
          go_wp2
          go_ret2
          have e : ok = false := by rw [HOK.out]; rfl
          exact ⟨ret2_ii (by rw [H1.out, e]; rfl) (by rw [H2.out, e]; rfl), hb3⟩
        | true =>
          obtain ⟨v1, v2⟩ := hdr rfl
          simp only [if_true] at hde hdv
          rw [← hdv] at hTT
          have HOK := Aside0.mk hOK
          have HTT := Aside0.mk hTT
          clear hdr hdv hOK hTT
          subst hde
          go_wp2
          all_goals go_ret2
          all_goals first
            | (have e : ok = true := (by rw [HOK.out]; simp; omega)
               exact ⟨ret2_ii (by rw [H1.out, e, HTT.out]; rfl) (by rw [H2.out, e]; rfl), hb3⟩)
            | (have e : ok = false := (by rw [HOK.out, Bool.eq_false_iff]; simp; omega)
               exact ⟨ret2_ii (by rw [H1.out, e]; rfl) (by rw [H2.out, e]; rfl), hb3⟩)
      · go_enter Tryz.func75, Tryz.ntmps75
        go_wp2
        go_ret2
        have e : ok = false := by
          rw [HO.out]; unfold pOk
          rw [G.out.2, show (some s[15] == some (90 : UInt8)) = false from beq_eq_false_iff_ne.mpr (fun hc => h15 (by injection hc with hc; rw [hc]; rfl))]
          simp
        exact ⟨ret2_ii (by rw [H1.out, e]; rfl) (by rw [H2.out, e]; rfl), Below.refl _ _⟩
    · go_enter Tryz.func75, Tryz.ntmps75
      go_wp2
      go_ret2
      have e : ok = false := by
        rw [HO.out]; unfold pOk
        rw [G.out.1, show (some s[8] == some (84 : UInt8)) = false from beq_eq_false_iff_ne.mpr (fun hc => h8 (by injection hc with hc; rw [hc]; rfl))]
        simp
      exact ⟨ret2_ii (by rw [H1.out, e]; rfl) (by rw [H2.out, e]; rfl), Below.refl _ _⟩
  · go_enter Tryz.func75, Tryz.ntmps75
    go_wp2
    go_ret2
    have e : ok = false := by rw [HO.out]; unfold pOk; rw [data_length]; simp [h16]
    exact ⟨ret2_ii (by rw [H1.out, e]; rfl) (by rw [H2.out, e]; rfl), Below.refl _ _⟩
end Go.Proofs.YtfbmjonhohebiaaGreatDoor
end
section
set_option linter.unusedVariables false
set_option linter.unusedSimpArgs false
namespace Go.Proofs.YtfbmjonhohebiaaGreatDoor
open Go.RowKit Go.Proofs.YtfbmjonhohebiaaGreatDoorW.PrintWords Go.Proofs.YtfbmjonhohebiaaGreatDoorW.PrintLast Go.Proofs.YtfbmjonhohebiaaGreatDoorW.PrintMore PRecurExpands
set_option maxRecDepth 100000 in
set_option maxHeartbeats 2000000 in
theorem part_UNTIL (X : ByteArray) (p : Nat) (a0 a1 a2 a3 : Int) (v4 v5 v6 : Value) (w : World) (hR : RuleAt w p a0 a1 a2 a3 v4 v5 v6) :
    Calls Tryz.prog 47 #[.pointer (some ⟨p, 0, none⟩), .string ⟨#[85, 78, 84, 73, 76]⟩, .string X] w fun e w' => e = .returned (.bool (pOk X.data.toList)) ∧
      w.grownBy w' (some p) ∧ RuleAt w' p a0 a1 a2 (if pOk X.data.toList = true then pT X.data.toList else 0) v4 v5 v6 := by
  have HR := Aside0.mk hR
  clear hR
  have hp := when_Parse X w
  obtain ⟨ok, hok⟩ : ∃ ok, ok = pOk X.data.toList := ⟨_, rfl⟩
  rw [← hok] at hp ⊢
  clear hok
  cases ok with
  | true =>
    rw [if_pos rfl, if_pos rfl] at hp
    rw [if_pos rfl]
    generalize pT X.data.toList = T at hp ⊢
    go_enter Tryz.func47, Tryz.ntmps47
    go_wp2_with (go_at_call 75; refine hp.mono ?_; rintro e w3 ⟨rfl, hb3⟩; obtain ⟨c0, c1, c2, c3, c4, c5, c6, cf, cz⟩ := (show RuleAt w3 p a0 a1 a2 a3 v4 v5 v6 from blk_below HR.out hb3).all; have cf0 := cf 3; clear cf)
    go_ret
    exact ⟨rfl, grown_trans (grown_of_below hb3 _) (grown_set _ _ _ _), blk_set (blk_below HR.out hb3) 3 _⟩
  | false =>
    rw [if_neg (by decide), if_neg (by decide)] at hp
    rw [if_neg (by decide)]
    go_enter Tryz.func47, Tryz.ntmps47
    go_wp2_with (go_at_call 75; refine hp.mono ?_; rintro e w3 ⟨rfl, hb3⟩; obtain ⟨c0, c1, c2, c3, c4, c5, c6, cf, cz⟩ := (show RuleAt w3 p a0 a1 a2 a3 v4 v5 v6 from blk_below HR.out hb3).all; have cf0 := cf 3; clear cf)
    go_ret
    exact ⟨rfl, grown_trans (grown_of_below hb3 _) (grown_set _ _ _ _), blk_set (blk_below HR.out hb3) 3 _⟩
set_option maxRecDepth 100000 in
set_option maxHeartbeats 2000000 in
theorem part_BYMONTH (X : ByteArray) (hX : X.size < 4294967000) (p : Nat) (a0 a1 a2 a3 : Int) (v4 v5 v6 : Value) (w : World) (hG : Globs w) (hR : RuleAt w p a0 a1 a2 a3 v4 v5 v6) :
    Calls Tryz.prog 47 #[.pointer (some ⟨p, 0, none⟩), .string ⟨#[66, 89, 77, 79, 78, 84, 72]⟩, .string X] w fun e w' => e = .returned (.bool (nlAll ((spl X 44).map (·.data.toList))).isSome) ∧
      w.grownBy w' (some p) ∧ ∃ v, RuleAt w' p a0 a1 a2 a3 v v5 v6 ∧ ∀ xs, nlAll ((spl X 44).map (·.data.toList)) = some xs → w'.ownsRow w.heap.size 3 1 v xs.length ((srtI xs).map (.int .i64)) := by
  have HR := Aside0.mk hR
  clear hR
  have hwk := recur_list X hX w hG
  obtain ⟨o, ho⟩ : ∃ o, o = nlAll ((spl X 44).map (·.data.toList)) := ⟨_, rfl⟩
  rw [← ho] at hwk ⊢
  clear ho
  cases o with
  | none =>
    go_enter Tryz.func47, Tryz.ntmps47
    go_wp2_with (go_at_call 76; refine hwk.mono ?_; rintro e w3 ⟨rfl, hb3⟩; obtain ⟨c0, c1, c2, c3, c4, c5, c6, cf, cz⟩ := (show RuleAt w3 p a0 a1 a2 a3 v4 v5 v6 from blk_below HR.out hb3).all; have cf0 := cf 4; clear cf)
    go_ret
    exact ⟨rfl, grown_trans (grown_of_below hb3 _) (grown_set _ _ _ _), _, blk_set (blk_below HR.out hb3) 4 _, fun xs h => by cases h⟩
  | some xs =>
    go_enter Tryz.func47, Tryz.ntmps47
    go_wp2_with (go_at_call 76; refine hwk.mono ?_; rintro e w3 ⟨⟨v, rfl, hrow⟩, hb3⟩; obtain ⟨A, cv, rfl⟩ := own_slice hrow; have HROW := Aside0.mk hrow; clear hrow; obtain ⟨c0, c1, c2, c3, c4, c5, c6, cf, cz⟩ := (show RuleAt w3 p a0 a1 a2 a3 v4 v5 v6 from blk_below HR.out hb3).all; have cf0 := cf 4; clear cf)
    go_ret
    refine ⟨rfl, grown_trans (grown_of_below hb3 _) (grown_set _ _ _ _), _, blk_set (blk_below HR.out hb3) 4 _, fun ys h => ?_⟩
    injection h with h
    subst h
    refine own_move HROW.out (fun k hk => Below.heap_setCell _ _ _ k (fun e => ?_))
    have h1 := own_base HROW.out k hk
    have h2 := blk_lt HR.out
    simp at e
    omega
set_option maxRecDepth 100000 in
set_option maxHeartbeats 2000000 in
theorem part_BYMONTHDAY (X : ByteArray) (hX : X.size < 4294967000) (p : Nat) (a0 a1 a2 a3 : Int) (v4 v5 v6 : Value) (w : World) (hG : Globs w) (hR : RuleAt w p a0 a1 a2 a3 v4 v5 v6) :
    Calls Tryz.prog 47 #[.pointer (some ⟨p, 0, none⟩), .string ⟨#[66, 89, 77, 79, 78, 84, 72, 68, 65, 89]⟩, .string X] w fun e w' => e = .returned (.bool (nlAll ((spl X 44).map (·.data.toList))).isSome) ∧
      w.grownBy w' (some p) ∧ ∃ v, RuleAt w' p a0 a1 a2 a3 v4 v v6 ∧ ∀ xs, nlAll ((spl X 44).map (·.data.toList)) = some xs → w'.ownsRow w.heap.size 3 1 v xs.length ((srtI xs).map (.int .i64)) := by
  have HR := Aside0.mk hR
  clear hR
  have hwk := recur_list X hX w hG
  obtain ⟨o, ho⟩ : ∃ o, o = nlAll ((spl X 44).map (·.data.toList)) := ⟨_, rfl⟩
  rw [← ho] at hwk ⊢
  clear ho
  cases o with
  | none =>
    go_enter Tryz.func47, Tryz.ntmps47
    go_wp2_with (go_at_call 76; refine hwk.mono ?_; rintro e w3 ⟨rfl, hb3⟩; obtain ⟨c0, c1, c2, c3, c4, c5, c6, cf, cz⟩ := (show RuleAt w3 p a0 a1 a2 a3 v4 v5 v6 from blk_below HR.out hb3).all; have cf0 := cf 5; clear cf)
    go_ret
    exact ⟨rfl, grown_trans (grown_of_below hb3 _) (grown_set _ _ _ _), _, blk_set (blk_below HR.out hb3) 5 _, fun xs h => by cases h⟩
  | some xs =>
    go_enter Tryz.func47, Tryz.ntmps47
    go_wp2_with (go_at_call 76; refine hwk.mono ?_; rintro e w3 ⟨⟨v, rfl, hrow⟩, hb3⟩; obtain ⟨A, cv, rfl⟩ := own_slice hrow; have HROW := Aside0.mk hrow; clear hrow; obtain ⟨c0, c1, c2, c3, c4, c5, c6, cf, cz⟩ := (show RuleAt w3 p a0 a1 a2 a3 v4 v5 v6 from blk_below HR.out hb3).all; have cf0 := cf 5; clear cf)
    go_ret
    refine ⟨rfl, grown_trans (grown_of_below hb3 _) (grown_set _ _ _ _), _, blk_set (blk_below HR.out hb3) 5 _, fun ys h => ?_⟩
    injection h with h
    subst h
    refine own_move HROW.out (fun k hk => Below.heap_setCell _ _ _ k (fun e => ?_))
    have h1 := own_base HROW.out k hk
    have h2 := blk_lt HR.out
    simp at e
    omega
def kFREQ : List UInt8 := [70, 82, 69, 81]
def kINTERVAL : List UInt8 := [73, 78, 84, 69, 82, 86, 65, 76]
def kCOUNT : List UInt8 := [67, 79, 85, 78, 84]
def kUNTIL : List UInt8 := [85, 78, 84, 73, 76]
def kBYMONTH : List UInt8 := [66, 89, 77, 79, 78, 84, 72]
def kBYMONTHDAY : List UInt8 := [66, 89, 77, 79, 78, 84, 72, 68, 65, 89]
def kBYDAY : List UInt8 := [66, 89, 68, 65, 89]
set_option maxRecDepth 100000 in
set_option maxHeartbeats 2000000 in
theorem part_other (N X : ByteArray) (p : Nat) (w : World)
    (h1 : ¬ N.data.toList = kFREQ) (h2 : ¬ N.data.toList = kINTERVAL) (h3 : ¬ N.data.toList = kCOUNT) (h4 : ¬ N.data.toList = kUNTIL) (h5 : ¬ N.data.toList = kBYMONTH) (h6 : ¬ N.data.toList = kBYMONTHDAY) (h7 : ¬ N.data.toList = kBYDAY) :
    Calls Tryz.prog 47 #[.pointer (some ⟨p, 0, none⟩), .string N, .string X] w fun e w' => e = .returned (.bool false) ∧ w' = w := by
  rw [← Lib.toList_data] at h1 h2 h3 h4 h5 h6 h7
  unfold kFREQ at h1
  have g1 := beq_eq_false_iff_ne.mpr h1
  clear h1
  unfold kINTERVAL at h2
  have g2 := beq_eq_false_iff_ne.mpr h2
  clear h2
  unfold kCOUNT at h3
  have g3 := beq_eq_false_iff_ne.mpr h3
  clear h3
  unfold kUNTIL at h4
  have g4 := beq_eq_false_iff_ne.mpr h4
  clear h4
  unfold kBYMONTH at h5
  have g5 := beq_eq_false_iff_ne.mpr h5
  clear h5
  unfold kBYMONTHDAY at h6
  have g6 := beq_eq_false_iff_ne.mpr h6
  clear h6
  unfold kBYDAY at h7
  have g7 := beq_eq_false_iff_ne.mpr h7
  clear h7
  go_enter Tryz.func47, Tryz.ntmps47
  go_wp2
  go_ret
  all_goals exact ⟨rfl, rfl⟩
end Go.Proofs.YtfbmjonhohebiaaGreatDoor
end
section
set_option linter.unusedVariables false
set_option linter.unusedSimpArgs false
namespace Go.Proofs.YtfbmjonhohebiaaGreatDoor
open Go.RowKit Go.Proofs.YtfbmjonhohebiaaGreatDoorW.PrintWords Go.Proofs.YtfbmjonhohebiaaGreatDoorW.PrintLast Go.Proofs.YtfbmjonhohebiaaGreatDoorW.PrintMore PRecurExpands
def seenD : List (List UInt8) → DataW Nat
  | [] => .map []
  | k :: ks => (seenD ks).put (.string k) (.lit (.bool true))
def hasK (k : List UInt8) : List (List UInt8) → Bool
  | [] => false
  | x :: xs => if k = x then true else hasK k xs
def Seen (w : World) (b : Nat) (ks : List (List UInt8)) : Prop := w.ownsMap Tryz.prog 9 (plainElem Tryz.prog 4) b ks.length (seenD ks)
theorem zero_bool (w : World) : (zeroValue 4).run Tryz.prog w = .ok (.bool false) w := by kernel_rfl
theorem isMap_seen : ∀ ks, Go.Maps.IsMap (seenD ks) := by
  intro ks
  induction ks with
  | nil => exact Go.Maps.isMap_empty
  | cons k ks ih => exact ih.put _ _
theorem seen_at (k : List UInt8) : ∀ ks, (seenD ks).atKey (.string k) (.lit (.bool false)) = .lit (.bool (hasK k ks)) := by
  intro ks
  induction ks with
  | nil => rfl
  | cons x xs ih =>
    unfold seenD hasK
    by_cases h : k = x
    · subst h
      rw [if_pos rfl]
      exact Go.Maps.atKey_put_same (isMap_seen xs) (by trivial) _ _
    · rw [if_neg h, Go.Maps.atKey_put_other (fun e => h (by injection e)) _ _]
      exact ih
theorem bool_inv {P : Program} {e : TypeId} (he : P.underlying e = some .bool) {v : Value} {c : Bool} {ps : List MemPlace} (h : plainElem (H := Nat) P e v = some (.lit (.bool c), ps)) : v = .bool c := by
  unfold plainElem at h
  rw [he] at h
  cases v with
  | bool x => simp at h; rw [h.1]
  | _ => simp at h
theorem seen_look {w : World} {b : Nat} {ks : List (List UInt8)} (h : Seen w b ks) (N : ByteArray) (hN : N.size ≤ maxLen) :
    (Instr.lookup 70 (.map (some b)) (.string N) false).run Tryz.prog w = .ok (.bool (hasK N.data.toList ks)) w := by
  obtain ⟨v, ps, hrun, hR⟩ := World.ownsMap.lookup h (Go.Maps.string_keyed Tryz.underlying9) Tryz.underlying70 (z := .bool false) (zero_bool w) (plainElem_bool Tryz.underlying4 false) (Go.WideMaps.keyOf_string_mk Tryz.underlying9 hN)
  rw [seen_at] at hR
  have : v = .bool (hasK N.data.toList ks) := by
    exact bool_inv Tryz.underlying4 hR
  rw [hrun, this]
theorem seen_made (w : World) : Seen (w.alloc (.map #[] 0)) w.heap.size [] := World.ownsMap_made w _ _ _
end Go.Proofs.YtfbmjonhohebiaaGreatDoor
end
section
set_option linter.unusedVariables false
set_option linter.unusedSimpArgs false
namespace Go.Proofs.YtfbmjonhohebiaaGreatDoor
open Go.RowKit Go.Proofs.YtfbmjonhohebiaaGreatDoorW.PrintWords Go.Proofs.YtfbmjonhohebiaaGreatDoorW.PrintLast Go.Proofs.YtfbmjonhohebiaaGreatDoorW.PrintMore PRecurExpands
structure RS where
  a0 : Int
  a1 : Int
  a2 : Int
  a3 : Int
  m : List Int
  d : List Int
  k : List S59
def splL (l : List UInt8) (c : UInt8) : List (List UInt8) := (spl ⟨l.toArray⟩ c).map (·.data.toList)
def partV (n x : List UInt8) (r : RS) : Option RS :=
  if n = kFREQ then (if frOk x 4 = true then some { r with a0 := frUp x r.a0 4 } else none)
  else if n = kINTERVAL then (if numB x = true then some { r with a1 := numV x } else none)
  else if n = kCOUNT then (if (numB x && decide (0 < numV x)) = true then some { r with a2 := numV x } else none)
  else if n = kUNTIL then (if pOk x = true then some { r with a3 := pT x } else none)
  else if n = kBYMONTH then (nlAll (splL x 44)).map (fun l => { r with m := srtI l })
  else if n = kBYMONTHDAY then (nlAll (splL x 44)).map (fun l => { r with d := srtI l })
  else if n = kBYDAY then (wkAll (splL x 44)).map (fun l => { r with k := srt59 l })
  else none
def RuleR (w : World) (p base : Nat) (r : RS) : Prop := ∃ v4 v5 v6, RuleAt w p r.a0 r.a1 r.a2 r.a3 v4 v5 v6 ∧
  w.ownsRow base 3 1 v4 r.m.length (r.m.map (.int .i64)) ∧ w.ownsRow base 3 1 v5 r.d.length (r.d.map (.int .i64)) ∧ w.ownsRow base 59 2 v6 r.k.length (r.k.flatMap enc59)
theorem own_grown {w w1 : World} {base p : Nat} {e : TypeId} {size n : Nat} {v : Value} {xs : List Value} (h : w.ownsRow base e size v n xs) (hg : w.grownBy w1 (some p)) (hp : p < base) : w1.ownsRow base e size v n xs := by
  obtain ⟨h1, h2 | ⟨g, cap, cur, rfl, hb, hh, r⟩⟩ := h
  · exact ⟨h1, .inl h2⟩
  · exact ⟨h1, .inr ⟨g, cap, cur, rfl, hb, (hg.block g (blk_lt hh) (fun e => by injection e with e; omega)).trans hh, r⟩⟩
theorem RuleR.grown {w w1 : World} {p q base : Nat} {r : RS} (h : RuleR w p base r) (hg : w.grownBy w1 (some q)) (hq : q < base) (hne : p ≠ q) : RuleR w1 p base r := by
  obtain ⟨v4, v5, v6, h1, h2, h3, h4⟩ := h
  exact ⟨v4, v5, v6, (hg.block p (blk_lt h1) (fun e => by injection e with e; exact hne e)).trans h1, own_grown h2 hg hq, own_grown h3 hg hq, own_grown h4 hg hq⟩
theorem RuleR.below {w w1 : World} {p base : Nat} {r : RS} (h : RuleR w p base r) (hb : Below w.heap.size w w1) : RuleR w1 p base r := by
  obtain ⟨v4, v5, v6, h1, h2, h3, h4⟩ := h
  exact ⟨v4, v5, v6, blk_below h1 hb, pw_own_below h2 hb, pw_own_below h3 hb, pw_own_below h4 hb⟩
theorem bytes_ext {N : ByteArray} {l : List UInt8} (h : N.data.toList = l) : N = ⟨l.toArray⟩ := by
  cases N with
  | mk d => simp at h; subst h; simp
theorem wk_len {l : List UInt8} {xs : List S59} : ∀ {a : List (List UInt8)} {xs : List S59}, wkAll a = some xs → xs.length = a.length := by
  intro a
  induction a with
  | nil => intro xs h; injection h with h; subst h; rfl
  | cons l a ih =>
    intro xs h
    simp only [wkAll] at h
    cases hx : wkOne l with
    | none => rw [hx] at h; cases h
    | some y =>
      rw [hx] at h
      simp only [Option.map_eq_some_iff] at h
      obtain ⟨ys, h1, rfl⟩ := h
      simp [ih h1]
theorem part_all (N X : ByteArray) (hX : X.size < 4294967000) (p base : Nat) (r : RS) (w : World) (hG : Globs w) (hR : RuleR w p base r) (hp : p < base) (hb : base ≤ w.heap.size) :
    Calls Tryz.prog 47 #[.pointer (some ⟨p, 0, none⟩), .string N, .string X] w fun e w' => e = .returned (.bool (partV N.data.toList X.data.toList r).isSome) ∧
      w.grownBy w' (some p) ∧ ∀ r', partV N.data.toList X.data.toList r = some r' → RuleR w' p base r' := by
  obtain ⟨v4, v5, v6, h1, h2, h3, h4⟩ := hR
  have hsp : splL X.data.toList 44 = (spl X 44).map (·.data.toList) := rfl
  unfold partV
  by_cases e1 : N.data.toList = kFREQ
  · rw [bytes_ext e1, if_pos rfl]
    refine (part_FREQ X p r.a0 r.a1 r.a2 r.a3 v4 v5 v6 w h1).mono ?_
    rintro e w' ⟨rfl, hg, hr⟩
    refine ⟨by split <;> simp_all, hg, fun r' h => ?_⟩
    split at h
    · injection h with h; subst h; exact ⟨v4, v5, v6, hr, own_grown h2 hg hp, own_grown h3 hg hp, own_grown h4 hg hp⟩
    · cases h
  rw [if_neg e1]
  by_cases e2 : N.data.toList = kINTERVAL
  · rw [bytes_ext e2, if_pos rfl]
    refine (part_INTERVAL X (by omega) p r.a0 r.a1 r.a2 r.a3 v4 v5 v6 w hG h1).mono ?_
    rintro e w' ⟨rfl, hg, hr⟩
    refine ⟨by split <;> simp_all, hg, fun r' h => ?_⟩
    split at h
    · injection h with h; subst h; exact ⟨v4, v5, v6, hr, own_grown h2 hg hp, own_grown h3 hg hp, own_grown h4 hg hp⟩
    · cases h
  rw [if_neg e2]
  by_cases e3 : N.data.toList = kCOUNT
  · rw [bytes_ext e3, if_pos rfl]
    refine (part_COUNT X (by omega) p r.a0 r.a1 r.a2 r.a3 v4 v5 v6 w hG h1).mono ?_
    rintro e w' ⟨rfl, hg, hr⟩
    refine ⟨by split <;> simp_all, hg, fun r' h => ?_⟩
    split at h
    · injection h with h; subst h; exact ⟨v4, v5, v6, hr, own_grown h2 hg hp, own_grown h3 hg hp, own_grown h4 hg hp⟩
    · cases h
  rw [if_neg e3]
  by_cases e4 : N.data.toList = kUNTIL
  · rw [bytes_ext e4, if_pos rfl]
    refine (part_UNTIL X p r.a0 r.a1 r.a2 r.a3 v4 v5 v6 w h1).mono ?_
    rintro e w' ⟨rfl, hg, hr⟩
    refine ⟨by split <;> simp_all, hg, fun r' h => ?_⟩
    split at h
    · rename_i hk
      rw [if_pos hk] at hr
      injection h with h; subst h; exact ⟨v4, v5, v6, hr, own_grown h2 hg hp, own_grown h3 hg hp, own_grown h4 hg hp⟩
    · cases h
  rw [if_neg e4]
  by_cases e5 : N.data.toList = kBYMONTH
  · rw [bytes_ext e5, if_pos rfl]
    refine (part_BYMONTH X hX p r.a0 r.a1 r.a2 r.a3 v4 v5 v6 w hG h1).mono ?_
    rintro e w' ⟨rfl, hg, v, hr, hv⟩
    refine ⟨by rw [hsp]; simp, hg, fun r' h => ?_⟩
    rw [hsp] at h
    obtain ⟨l, hl, rfl⟩ := Option.map_eq_some_iff.mp h
    have hw := hv l hl
    exact ⟨v, v5, v6, hr, by rw [show (srtI l).length = l.length from List.length_mergeSort _]; exact own_weaken hw hb, own_grown h3 hg hp, own_grown h4 hg hp⟩
  rw [if_neg e5]
  by_cases e6 : N.data.toList = kBYMONTHDAY
  · rw [bytes_ext e6, if_pos rfl]
    refine (part_BYMONTHDAY X hX p r.a0 r.a1 r.a2 r.a3 v4 v5 v6 w hG h1).mono ?_
    rintro e w' ⟨rfl, hg, v, hr, hv⟩
    refine ⟨by rw [hsp]; simp, hg, fun r' h => ?_⟩
    rw [hsp] at h
    obtain ⟨l, hl, rfl⟩ := Option.map_eq_some_iff.mp h
    have hw := hv l hl
    exact ⟨v4, v, v6, hr, own_grown h2 hg hp, by rw [show (srtI l).length = l.length from List.length_mergeSort _]; exact own_weaken hw hb, own_grown h4 hg hp⟩
  rw [if_neg e6]
  by_cases e7 : N.data.toList = kBYDAY
  · rw [bytes_ext e7, if_pos rfl]
    refine (part_BYDAY sortC X hX p r.a0 r.a1 r.a2 r.a3 v4 v5 v6 w hG h1).mono ?_
    rintro e w' ⟨rfl, hg, v, hr, hv⟩
    refine ⟨by rw [hsp]; simp, hg, fun r' h => ?_⟩
    rw [hsp] at h
    obtain ⟨l, hl, rfl⟩ := Option.map_eq_some_iff.mp h
    have hw := hv l hl
    exact ⟨v4, v5, v, hr, own_grown h2 hg hp, own_grown h3 hg hp, by rw [show (srt59 l).length = l.length from List.length_mergeSort _]; exact own_weaken hw hb⟩
  rw [if_neg e7]
  refine (part_other N X p w e1 e2 e3 e4 e5 e6 e7).mono ?_
  rintro e w' ⟨rfl, rfl⟩
  exact ⟨rfl, grown_of_below (Below.refl _ _) _, fun r' h => by cases h⟩
end Go.Proofs.YtfbmjonhohebiaaGreatDoor
end
section
set_option linter.unusedVariables false
set_option linter.unusedSimpArgs false
namespace Go.Proofs.YtfbmjonhohebiaaGreatDoor
open Go.RowKit Go.Proofs.YtfbmjonhohebiaaGreatDoorW.PrintWords Go.Proofs.YtfbmjonhohebiaaGreatDoorW.PrintLast Go.Proofs.YtfbmjonhohebiaaGreatDoorW.PrintMore PRecurExpands
def readGo : List (List UInt8) → List (List UInt8) → RS → Option RS
  | [], _, r => some r
  | p :: ps, seen, r =>
    if ((Lib.cut p [61]).2.2 && !hasK (Lib.cut p [61]).1 seen) = true then
      match partV (Lib.cut p [61]).1 (Lib.cut p [61]).2.1 r with
      | none => none
      | some r' => readGo ps ((Lib.cut p [61]).1 :: seen) r'
    else none
def rs0 : RS := ⟨0, 1, 0, -1, [], [], []⟩
def readP (l : List UInt8) : Option RS := readGo (splL (upL l) 59) [] rs0
open Classical in
noncomputable def rightB (r : RS) : Bool := decide (RightP r.a0 r.a1 r.a2 r.a3 r.m r.d r.k)
noncomputable def readV (l : List UInt8) : Option RS := match readP l with | none => none | some r => if rightB r = true then some r else none
def nil7 : Value := .agg #[.int .i64 0, .int .i64 0, .int .i64 0, .int .i64 0, .slice none 0 0, .slice none 0 0, .slice none 0 0]
def rdPost (o : Option RS) (n₀ : Nat) (e : Ending) (w' : World) : Prop := match o with
  | none => e = .returned (.tuple #[nil7, .int .i64 3])
  | some r => ∃ v4 v5 v6, e = .returned (.tuple #[.agg #[.int .i64 r.a0, .int .i64 r.a1, .int .i64 r.a2, .int .i64 r.a3, v4, v5, v6], .int .i64 0]) ∧
      w'.ownsRow n₀ 3 1 v4 r.m.length (r.m.map (.int .i64)) ∧ w'.ownsRow n₀ 3 1 v5 r.d.length (r.d.map (.int .i64)) ∧ w'.ownsRow n₀ 59 2 v6 r.k.length (r.k.flatMap enc59)
theorem cut_len1 (l sep : List UInt8) : (Lib.cut l sep).1.length ≤ l.length := by
  unfold Lib.cut
  split
  · simp [List.length_take]; omega
  · simp
theorem cut_len2 (l sep : List UInt8) : (Lib.cut l sep).2.1.length ≤ l.length := by
  unfold Lib.cut
  split <;> simp
theorem res2 {fn : Func} {p u : Tmp} (h : fn.results = #[.cell p 25, .tmp u]) (tmps : Array Value) (w : World) (g : Nat) (a0 a1 a2 a3 : Int) (v4 v5 v6 x : Value) (hp : tmps.getD p undef = .pointer (some ⟨g, 0, none⟩)) (hx : tmps.getD u undef = x) (hg : RuleAt w g a0 a1 a2 a3 v4 v5 v6) :
    (results fn tmps).run Tryz.prog w = .ok (.tuple #[.agg #[.int .i64 a0, .int .i64 a1, .int .i64 a2, .int .i64 a3, v4, v5, v6], x]) w := by
  rw [results_cell_tmp h, hp, hx]
  have e := run_loadVar_row w g _ 25 _ _ _ hg Tryz.underlying25 rfl (by kernel_rfl)
  simp only [asAddr]
  show (Result.andThen (.ok _ w) _) = _
  simp only [Result.andThen]
  rw [e]
  rfl
theorem zeros7 {w : World} {g : Nat} {a0 a1 a2 a3 : Int} {v4 v5 v6 : Value} (h : RuleAt w g a0 a1 a2 a3 v4 v5 v6) (b0 b1 b2 b3 : Int) (u4 u5 u6 : Value) :
    RuleAt (((((((w.setCell ⟨g, 0, none⟩ (.int .i64 b0)).setCell ⟨g, 1, none⟩ (.int .i64 b1)).setCell ⟨g, 2, none⟩ (.int .i64 b2)).setCell ⟨g, 3, none⟩ (.int .i64 b3)).setCell ⟨g, 4, none⟩ u4).setCell ⟨g, 5, none⟩ u5).setCell ⟨g, 6, none⟩ u6) g b0 b1 b2 b3 u4 u5 u6 := by
  have h0 : RuleAt (w.setCell ⟨g, 0, none⟩ (.int .i64 b0)) g b0 a1 a2 a3 v4 v5 v6 := blk_set h 0 _
  generalize w.setCell ⟨g, 0, none⟩ (.int .i64 b0) = w0 at h0 ⊢
  have h1 : RuleAt (w0.setCell ⟨g, 1, none⟩ (.int .i64 b1)) g b0 b1 a2 a3 v4 v5 v6 := blk_set h0 1 _
  generalize w0.setCell ⟨g, 1, none⟩ (.int .i64 b1) = w1 at h1 ⊢
  have h2 : RuleAt (w1.setCell ⟨g, 2, none⟩ (.int .i64 b2)) g b0 b1 b2 a3 v4 v5 v6 := blk_set h1 2 _
  generalize w1.setCell ⟨g, 2, none⟩ (.int .i64 b2) = w2 at h2 ⊢
  have h3 : RuleAt (w2.setCell ⟨g, 3, none⟩ (.int .i64 b3)) g b0 b1 b2 b3 v4 v5 v6 := blk_set h2 3 _
  generalize w2.setCell ⟨g, 3, none⟩ (.int .i64 b3) = w3 at h3 ⊢
  have h4 : RuleAt (w3.setCell ⟨g, 4, none⟩ u4) g b0 b1 b2 b3 u4 v5 v6 := blk_set h3 4 _
  generalize w3.setCell ⟨g, 4, none⟩ u4 = w4 at h4 ⊢
  have h5 : RuleAt (w4.setCell ⟨g, 5, none⟩ u5) g b0 b1 b2 b3 u4 u5 v6 := blk_set h4 5 _
  generalize w4.setCell ⟨g, 5, none⟩ u5 = w5 at h5 ⊢
  exact blk_set h5 6 _
theorem below7 (w : World) {n g : Nat} (hg : n ≤ g) (b0 b1 b2 b3 : Int) (u4 u5 u6 : Value) :
    Below n w (((((((w.setCell ⟨g, 0, none⟩ (.int .i64 b0)).setCell ⟨g, 1, none⟩ (.int .i64 b1)).setCell ⟨g, 2, none⟩ (.int .i64 b2)).setCell ⟨g, 3, none⟩ (.int .i64 b3)).setCell ⟨g, 4, none⟩ u4).setCell ⟨g, 5, none⟩ u5).setCell ⟨g, 6, none⟩ u6) :=
  (((((((Below.refl n w).setCell (p := ⟨g, 0, none⟩) hg _).setCell (p := ⟨g, 1, none⟩) hg _).setCell (p := ⟨g, 2, none⟩) hg _).setCell (p := ⟨g, 3, none⟩) hg _).setCell (p := ⟨g, 4, none⟩) hg _).setCell (p := ⟨g, 5, none⟩) hg _).setCell (p := ⟨g, 6, none⟩) hg _
theorem rg_bad {p : List UInt8} {ps seen : List (List UInt8)} {r : RS} (h : ((Lib.cut p [61]).2.2 && !hasK (Lib.cut p [61]).1 seen) = false) : readGo (p :: ps) seen r = none := by
  unfold readGo
  rw [if_neg (by rw [h]; decide)]
theorem rg_part {p : List UInt8} {ps seen : List (List UInt8)} {r : RS} (h : ((Lib.cut p [61]).2.2 && !hasK (Lib.cut p [61]).1 seen) = true) (hp : partV (Lib.cut p [61]).1 (Lib.cut p [61]).2.1 r = none) : readGo (p :: ps) seen r = none := by
  unfold readGo
  rw [if_pos h, hp]
theorem rg_step {p : List UInt8} {ps seen : List (List UInt8)} {r r' : RS} (h : ((Lib.cut p [61]).2.2 && !hasK (Lib.cut p [61]).1 seen) = true) (hp : partV (Lib.cut p [61]).1 (Lib.cut p [61]).2.1 r = some r') : readGo (p :: ps) seen r = readGo ps ((Lib.cut p [61]).1 :: seen) r' := by
  conv => lhs; unfold readGo
  rw [if_pos h, hp]
theorem own_reads_i {w : World} {base : Nat} {v : Value} {xs : List Int} (h : w.ownsRow base 3 1 v xs.length (xs.map (.int .i64))) : ∃ A c, v = .slice A xs.length c ∧ xs.length ≤ c ∧ Kd.C (Kd.int .i64) w A xs.length xs :=
  Kd.R_reads (d := Kd.int .i64) (e := 3) (base := base) (ok := fun _ => True) (Kd.R_of_own h (fun _ _ => trivial))
theorem flat59_get : ∀ (l : List S59) (t : Nat), (l.flatMap enc59)[t]? = (l[t / 2]?).map (fun x => if t % 2 = 0 then .int .i64 x.f0 else .int .i64 x.f1) := flat_get (fun x : S59 => .int .i64 x.f0) (fun x : S59 => .int .i64 x.f1)
theorem own_reads_k {w : World} {base : Nat} {v : Value} {xs : List S59} (h : w.ownsRow base 59 2 v xs.length (xs.flatMap enc59)) : ∃ A c, v = .slice A xs.length c ∧ xs.length ≤ c ∧ Kd.C k59 w A xs.length xs := by
  obtain ⟨h1, ⟨rfl, h0⟩ | ⟨g, cap, cur, rfl, hb, hh, hc, hm, hs, ht⟩⟩ := h
  · refine ⟨none, 0, by rw [h0], by omega, rfl, by omega, fun hp => by omega⟩
  · refine ⟨_, _, rfl, hc, rfl, by unfold maxLen at hm; omega, fun hp => ⟨_, rfl, fun j p hj => ⟨[.int .i64 p.f0, .int .i64 p.f1], rfl, k59_mk w p, fun i u hu => ?_⟩⟩⟩
    have hjl : j < xs.length := (List.getElem?_eq_some_iff.mp hj).1
    have hi : i < 2 := by
      have := (List.getElem?_eq_some_iff.mp hu).1
      simpa using this
    rw [show k59.sz = 2 from rfl]
    rw [show (⟨g, 0, none⟩ : Addr).add (j * 2 + i) = ⟨g, j * 2 + i, none⟩ from by simp [Addr.add]; omega, blk_cell hh]
    have e : cur[j * 2 + i]? = (xs.flatMap enc59)[j * 2 + i]? := by
      rw [← ht, List.getElem?_take_of_lt (by omega)]
      simp
    rw [e, flat59_get, show (j * 2 + i) / 2 = j by omega, hj]
    match i, hi with
    | 0, _ => simp at hu ⊢; exact hu
    | 1, _ => simp at hu; simp [show (j * 2 + 1) % 2 = 1 by omega]; exact hu
def RSb (r : RS) : Prop := r.m.length ≤ 1000000000 ∧ r.d.length ≤ 1000000000 ∧ r.k.length ≤ 1000000000
theorem nl_len : ∀ {a : List (List UInt8)} {xs : List Int}, nlAll a = some xs → xs.length = a.length := by
  intro a
  induction a with
  | nil => intro xs h; injection h with h; subst h; rfl
  | cons l a ih =>
    intro xs h
    simp only [nlAll] at h
    cases hx : nlOne l with
    | none => rw [hx] at h; cases h
    | some y =>
      rw [hx] at h
      simp only [Option.map_eq_some_iff] at h
      obtain ⟨ys, h1, rfl⟩ := h
      simp [ih h1]
theorem splL_len (l : List UInt8) (c : UInt8) : (splL l c).length ≤ l.length + 1 := by
  unfold splL
  rw [List.length_map, spl_len]
  have := Lib.countB_le ⟨#[c]⟩ (Nat.le_refl 1) (ByteArray.mk l.toArray).size ⟨l.toArray⟩ (Nat.le_refl _)
  have e : (ByteArray.mk l.toArray).size = l.length := by rw [← data_length]
  omega
theorem partV_len {n x : List UInt8} {r r' : RS} (h : partV n x r = some r') (hx : x.length < 999999999) (hr : RSb r) : RSb r' := by
  obtain ⟨r1, r2, r3⟩ := hr
  have hsl := splL_len x 44
  unfold partV at h
  split at h
  · split at h
    · injection h with h; subst h; exact ⟨r1, r2, r3⟩
    · cases h
  split at h
  · split at h
    · injection h with h; subst h; exact ⟨r1, r2, r3⟩
    · cases h
  split at h
  · split at h
    · injection h with h; subst h; exact ⟨r1, r2, r3⟩
    · cases h
  split at h
  · split at h
    · injection h with h; subst h; exact ⟨r1, r2, r3⟩
    · cases h
  split at h
  · obtain ⟨l, hl, rfl⟩ := Option.map_eq_some_iff.mp h
    exact ⟨by show (srtI l).length ≤ _; unfold srtI; rw [List.length_mergeSort, nl_len hl]; omega, r2, r3⟩
  split at h
  · obtain ⟨l, hl, rfl⟩ := Option.map_eq_some_iff.mp h
    exact ⟨r1, by show (srtI l).length ≤ _; unfold srtI; rw [List.length_mergeSort, nl_len hl]; omega, r3⟩
  split at h
  · obtain ⟨l, hl, rfl⟩ := Option.map_eq_some_iff.mp h
    exact ⟨r1, r2, by show (srt59 l).length ≤ _; unfold srt59; rw [List.length_mergeSort, wk_len (l := []) (xs := []) hl]; omega⟩
  · cases h
theorem far7 (w : World) (g : Nat) (b0 b1 b2 b3 : Int) (u4 u5 u6 : Value) (k : Nat) (hk : k ≠ g) :
    (((((((w.setCell ⟨g, 0, none⟩ (.int .i64 b0)).setCell ⟨g, 1, none⟩ (.int .i64 b1)).setCell ⟨g, 2, none⟩ (.int .i64 b2)).setCell ⟨g, 3, none⟩ (.int .i64 b3)).setCell ⟨g, 4, none⟩ u4).setCell ⟨g, 5, none⟩ u5).setCell ⟨g, 6, none⟩ u6).heap[k]? = w.heap[k]? := by
  rw [Below.heap_setCell _ _ _ _ (by simpa using hk), Below.heap_setCell _ _ _ _ (by simpa using hk), Below.heap_setCell _ _ _ _ (by simpa using hk), Below.heap_setCell _ _ _ _ (by simpa using hk), Below.heap_setCell _ _ _ _ (by simpa using hk), Below.heap_setCell _ _ _ _ (by simpa using hk), Below.heap_setCell _ _ _ _ (by simpa using hk)]
theorem own7 {w : World} {g base : Nat} {e : TypeId} {size n : Nat} {v : Value} {xs : List Value} (h : w.ownsRow base e size v n xs) (hg : g < base) (b0 b1 b2 b3 : Int) (u4 u5 u6 : Value) :
    (((((((w.setCell ⟨g, 0, none⟩ (.int .i64 b0)).setCell ⟨g, 1, none⟩ (.int .i64 b1)).setCell ⟨g, 2, none⟩ (.int .i64 b2)).setCell ⟨g, 3, none⟩ (.int .i64 b3)).setCell ⟨g, 4, none⟩ u4).setCell ⟨g, 5, none⟩ u5).setCell ⟨g, 6, none⟩ u6).ownsRow g e size v n xs :=
  own_weaken (own_move h (fun k hk => far7 w g b0 b1 b2 b3 u4 u5 u6 k (by have := own_base h k hk; omega))) (by omega)
structure ReadInv (w wr : World) (seen : List (List UInt8)) (r : RS) : Prop where
  below : Below w.heap.size w wr
  res : RuleAt wr w.heap.size 0 0 0 0 (.slice none 0 0) (.slice none 0 0) (.slice none 0 0)
  rule : RuleR wr (w.heap.size + 1) (w.heap.size + 3) r
  seen : Seen wr (w.heap.size + 2) seen
  size : w.heap.size + 3 ≤ wr.heap.size
theorem seen_below {w w1 : World} {b : Nat} {ks : List (List UInt8)} (h : Seen w b ks) (hb : Below w.heap.size w w1) : Seen w1 b ks := World.ownsMap.kept h (grown_of_below hb none) (by simp)
theorem ReadInv.next {w wr w1 : World} {seen : List (List UInt8)} {r : RS} (h : ReadInv w wr seen r) (hb : Below wr.heap.size wr w1) : ReadInv w w1 seen r :=
  ⟨h.below.trans (hb.mono (by have := h.size; omega)), blk_below h.res hb, h.rule.below hb, seen_below h.seen hb, Nat.le_trans h.size hb.size⟩
theorem read_start {w w2 : World} (hb : Below (((w.alloc (.cells (cells7 0 0 0 0 (.slice none 0 0) (.slice none 0 0) (.slice none 0 0)) 25)).alloc (.cells (cells7 0 1 0 (-1) (.slice none 0 0) (.slice none 0 0) (.slice none 0 0)) 25)).alloc (.map #[] 0)).heap.size (((w.alloc (.cells (cells7 0 0 0 0 (.slice none 0 0) (.slice none 0 0) (.slice none 0 0)) 25)).alloc (.cells (cells7 0 1 0 (-1) (.slice none 0 0) (.slice none 0 0) (.slice none 0 0)) 25)).alloc (.map #[] 0)) w2) : ReadInv w w2 [] rs0 := by
  refine ReadInv.next ⟨?_, ?_, ?_, ?_, ?_⟩ hb
  · exact (((Below.refl w.heap.size w).alloc (Nat.le_refl _) _).alloc (by simp) _).alloc (by simp; omega) _
  · exact blk_alloc (blk_alloc (blk_new w _) _) _
  · refine ⟨_, _, _, ?_, World.ownsRow_nil _ _ _ _, World.ownsRow_nil _ _ _ _, World.ownsRow_nil _ _ _ _⟩
    have h := blk_alloc (blk_new (w.alloc (.cells (cells7 0 0 0 0 (.slice none 0 0) (.slice none 0 0) (.slice none 0 0)) 25)) (.cells (cells7 0 1 0 (-1) (.slice none 0 0) (.slice none 0 0) (.slice none 0 0)) 25)) (.map #[] 0)
    rw [World.size_alloc] at h
    exact h
  · have h := seen_made ((w.alloc (.cells (cells7 0 0 0 0 (.slice none 0 0) (.slice none 0 0) (.slice none 0 0)) 25)).alloc (.cells (cells7 0 1 0 (-1) (.slice none 0 0) (.slice none 0 0) (.slice none 0 0)) 25))
    rw [World.size_alloc, World.size_alloc] at h
    exact h
  · simp
theorem res_part {w wr w5 : World} {seen : List (List UInt8)} {r : RS} {n : Nat} (h : ReadInv w wr seen r) (hg : (wr.drewN n).grownBy w5 (some (w.heap.size + 1))) :
    RuleAt w5 w.heap.size 0 0 0 0 (.slice none 0 0) (.slice none 0 0) (.slice none 0 0) ∧ Below w.heap.size w w5 := by
  have hz := h.size
  refine ⟨(hg.block _ (by show w.heap.size < wr.heap.size; omega) (by simp)).trans h.res, ?_⟩
  exact ((h.below.trans (⟨rfl, rfl, rfl, Nat.le_refl _, fun _ _ => rfl⟩ : Below w.heap.size wr (wr.drewN n))).grown hg (by show w.heap.size ≤ wr.heap.size; omega) (fun k hk => by injection hk with hk; omega))
theorem inv_part {w wr w5 w6 : World} {seen : List (List UInt8)} {r r' : RS} {n : Nat} {k : List UInt8} (h : ReadInv w wr seen r) (hg : (wr.drewN n).grownBy w5 (some (w.heap.size + 1))) (hr : RuleR w5 (w.heap.size + 1) (w.heap.size + 3) r')
    (hs : w6.ownsMap Tryz.prog 9 (plainElem Tryz.prog 4) (w.heap.size + 2) (seen.length + 1) ((seenD seen).put (.string k) (.lit (.bool true)))) (hg6 : w5.grownBy w6 (some (w.heap.size + 2))) : ReadInv w w6 (k :: seen) r' := by
  obtain ⟨h1, h2⟩ := res_part h hg
  have hz := h.size
  have hz5 := hg.size
  have hz5' : wr.heap.size ≤ w5.heap.size := hz5
  have hz6 := hg6.size
  refine ⟨h2.grown hg6 (by omega) (fun k hk => by injection hk with hk; omega), (hg6.block _ (by omega) (by simp)).trans h1, hr.grown hg6 (by omega) (by omega), hs, by omega⟩
set_option maxRecDepth 100000 in
set_option maxHeartbeats 4000000 in
theorem recur_Read (s : ByteArray) (hs : s.size < 999999999) (w : World) (hG : Globs w) :
    Calls Tryz.prog 22 #[.string s] w fun e w' => rdPost (readV s.data.toList) w.heap.size e w' ∧ Below w.heap.size w w' := by
  obtain ⟨o, ho⟩ : ∃ o, o = readV s.data.toList := ⟨_, rfl⟩
  rw [← ho]
  have HO := Aside0.mk ho
  have hG1 := Aside0.mk hG
  clear hG ho
  have hmm := @run_makeMap Tryz.prog
  obtain ⟨U, hU⟩ : ∃ U : ByteArray, U = ⟨(upL s.data.toList).toArray⟩ := ⟨_, rfl⟩
  have hUl : U.data.toList = upL s.data.toList := by rw [hU]
  have hUs : U.size = s.size := by rw [← data_length, hUl]; simp [upL, data_length]
  have hup := recur_upper s (by omega)
  rw [← hU] at hup
  obtain ⟨L, hL⟩ : ∃ L, L = spl U 59 := ⟨_, rfl⟩
  have hlen : Lib.countB U ⟨#[59]⟩ + 1 = L.length := by rw [hL]; exact (spl_len U 59).symm
  have hLs : ∀ x ∈ L, x.size ≤ s.size := by rw [hL, ← hUs]; exact spl_mem U 59
  have hLl : L.length ≤ s.size + 1 := by rw [hL, spl_len, ← hUs]; have := Lib.countB_le ⟨#[59]⟩ (by decide) U.size U (Nat.le_refl _); omega
  have hcut := fun m W => Tryz.strings_Split U ⟨#[59]⟩ m W (by omega)
  rw [show Lib.splitB ⟨#[59]⟩ 0 (Lib.countB U ⟨#[59]⟩) U = L from hL.symm, hlen] at hcut
  have hP : readP s.data.toList = readGo (L.map (·.data.toList)) [] rs0 := by rw [hL]; unfold readP splL; rw [← hUl]
  have HP := Aside0.mk hP
  have HUS := Aside0.mk hUs
  clear hP hL hU hUl hlen hUs
  go_enter Tryz.func22, Tryz.ntmps22
  obtain ⟨m0, hm0⟩ := hG1.out.maxlen
  have hgs := hG1.out.size
  go_wp2_with (first
    | (go_at_call 45; refine (hup _).mono ?_; rintro e w2 ⟨rfl, hb2⟩; have I := Aside0.mk (read_start hb2); clear hb2)
    | (go_at_call 44; refine (hcut m0 _ ((I.out.below.cell (p := ⟨0, 0, none⟩) (by show 0 < _; omega)).trans hm0) (by decide)).mono ?_; rintro e w3 ⟨rfl, rfl⟩))
  have hk0 := blk_new w2 (.cells (L.map Value.string).toArray 9)
  have hz2 := I.out.size
  have I0 := I.out.next ((Below.refl w2.heap.size w2).alloc (Nat.le_refl _) (.cells (L.map Value.string).toArray 9))
  clear I
  go_loopw [17] (fun i wr => ∃ (k : Nat) (seen : List (List UInt8)) (r : RS), k ≤ L.length ∧ i = .int .i64 k ∧ ReadInv w wr seen r ∧ RSb r ∧ seen.length ≤ k ∧ wr.heap[w2.heap.size]? = some (.cells (L.map Value.string).toArray 9) ∧ readGo ((L.drop k).map (·.data.toList)) seen r = readGo (L.map (·.data.toList)) [] rs0) (fun i _ => L.length - (intOf i).toNat)
  case atStart => exact ⟨0, [], rs0, by omega, rfl, I0, by simp [RSb, rs0], by simp, hk0, rfl⟩
  case round =>
    obtain ⟨k, seen, r, hk, rfl, hI, hrs, hsn, hbk, hgo⟩ := hrel
    clear I0 hk0 hup hcut
    by_cases hlt : k < L.length
    · obtain ⟨X, hX⟩ : ∃ X, L[k]? = some X := ⟨L[k], List.getElem?_eq_getElem hlt⟩
      have hXs := hLs X (List.mem_of_getElem? hX)
      have hcell : wr.cell? ⟨w2.heap.size, k, none⟩ = some (.string X) := by rw [blk_cell hbk]; simp [hX]
      have HI := Aside0.mk hI
      have HBK := Aside0.mk hbk
      have hdrop : L.drop k = X :: L.drop (k + 1) := by
        obtain ⟨h1, rfl⟩ := List.getElem?_eq_some_iff.mp hX
        exact List.drop_eq_getElem_cons h1
      rw [hdrop, List.map_cons] at hgo
      obtain ⟨N, hN⟩ : ∃ N : ByteArray, N = ⟨(Lib.cut X.data.toList [61]).1.toArray⟩ := ⟨_, rfl⟩
      obtain ⟨V, hV⟩ : ∃ V : ByteArray, V = ⟨(Lib.cut X.data.toList [61]).2.1.toArray⟩ := ⟨_, rfl⟩
      obtain ⟨ok, hok⟩ : ∃ ok, ok = (Lib.cut X.data.toList [61]).2.2 := ⟨_, rfl⟩
      have hcut := Tryz.strings_Cut X ⟨#[61]⟩ m0 wr (by omega) ((hI.below.cell (p := ⟨0, 0, none⟩) (by show 0 < _; omega)).trans hm0)
      rw [show (ByteArray.mk #[61]).data.toList = [61] from rfl, ← hN, ← hV, ← hok] at hcut
      have hNl : N.data.toList = (Lib.cut X.data.toList [61]).1 := by rw [hN]
      have hVl : V.data.toList = (Lib.cut X.data.toList [61]).2.1 := by rw [hV]
      have hNs : N.size ≤ X.size := by rw [← data_length, hNl, ← data_length]; exact cut_len1 _ _
      have hVs : V.size ≤ X.size := by rw [← data_length, hVl, ← data_length]; exact cut_len2 _ _
      clear hN hV
      have HGO := Aside0.mk hgo
      have HNL := Aside0.mk hNl
      have HVL := Aside0.mk hVl
      have HOKK := Aside0.mk hok
      have hz := HI.out.size
      obtain ⟨hh, hhh⟩ : ∃ hh, hh = hasK N.data.toList seen := ⟨_, rfl⟩
      have HH := Aside0.mk hhh
      have hlook := fun n => seen_look (w := wr.drewN n) (b := w.heap.size + 2) (ks := seen) hI.seen N (by unfold maxLen; omega)
      rw [← hhh] at hlook
      clear hgo hNl hVl hok hI hbk hhh hdrop
      cases ok with
      | false =>
        go_wp2_with (first
          | (go_at_call 46; refine hcut.mono ?_; rintro e w4 ⟨rfl, n, rfl⟩; obtain ⟨c0, c1, c2, c3, c4, c5, c6, cf, cz⟩ := (show RuleAt (wr.drewN n) w.heap.size 0 0 0 0 (.slice none 0 0) (.slice none 0 0) (.slice none 0 0) from HI.out.res).all; have f0 := cf 0; have f1 := cf 1; have f2 := cf 2; have f3 := cf 3; have f4 := cf 4; have f5 := cf 5; have f6 := cf 6; clear cf))
        refine bodyPost_ret (res2 rfl _ _ w.heap.size 0 0 0 0 (.slice none 0 0) (.slice none 0 0) (.slice none 0 0) (.int .i64 3) rfl rfl (zeros7 (w := wr.drewN n) HI.out.res 0 0 0 0 _ _ _)) rfl ⟨?_, ?_⟩
        · have e : o = none := by rw [HO.out]; unfold readV; rw [HP.out, ← HGO.out, rg_bad (by rw [← HOKK.out]; rfl)]
          rw [e]; rfl
        · exact (HI.out.below.trans (⟨rfl, rfl, rfl, Nat.le_refl _, fun _ _ => rfl⟩ : Below w.heap.size wr (wr.drewN n))).trans (below7 (wr.drewN n) (Nat.le_refl _) 0 0 0 0 _ _ _)
      | true =>
        cases hh with
        | true =>
          have hlk := hlook
          go_wp2_with (first
            | (go_at_call 46; refine hcut.mono ?_; rintro e w4 ⟨rfl, n, rfl⟩; have hl2 := hlook n; obtain ⟨c0, c1, c2, c3, c4, c5, c6, cf, cz⟩ := (show RuleAt (wr.drewN n) w.heap.size 0 0 0 0 (.slice none 0 0) (.slice none 0 0) (.slice none 0 0) from HI.out.res).all; have f0 := cf 0; have f1 := cf 1; have f2 := cf 2; have f3 := cf 3; have f4 := cf 4; have f5 := cf 5; have f6 := cf 6; clear cf))
          refine bodyPost_ret (res2 rfl _ _ w.heap.size 0 0 0 0 (.slice none 0 0) (.slice none 0 0) (.slice none 0 0) (.int .i64 3) rfl rfl (zeros7 (w := wr.drewN n) HI.out.res 0 0 0 0 _ _ _)) rfl ⟨?_, ?_⟩
          · have e : o = none := by rw [HO.out]; unfold readV; rw [HP.out, ← HGO.out, rg_bad (by rw [← HOKK.out, ← HNL.out, ← HH.out]; rfl)]
            rw [e]; rfl
          · exact (HI.out.below.trans (⟨rfl, rfl, rfl, Nat.le_refl _, fun _ _ => rfl⟩ : Below w.heap.size wr (wr.drewN n))).trans (below7 (wr.drewN n) (Nat.le_refl _) 0 0 0 0 _ _ _)
        | false =>
          have dn : ∀ n, Below wr.heap.size wr (wr.drewN n) := fun n => ⟨rfl, rfl, rfl, Nat.le_refl _, fun _ _ => rfl⟩
          have hpart := fun n => part_all N V (by omega) (w.heap.size + 1) (w.heap.size + 3) r (wr.drewN n) (hG1.out.below (HI.out.below.trans ((dn n).mono (by omega)))) (HI.out.rule.below (dn n)) (by omega) hz
          have hb1 : ((Lib.cut X.data.toList [61]).2.2 && !hasK (Lib.cut X.data.toList [61]).1 seen) = true := by rw [← HOKK.out, ← HNL.out, ← HH.out]; rfl
          have HB1 := Aside0.mk hb1
          clear hb1
          cases hpv : partV N.data.toList V.data.toList r with
          | none =>
            rw [hpv] at hpart
            have HPV := Aside0.mk hpv
            clear hpv
            go_wp2_with (first
              | (go_at_call 46; refine hcut.mono ?_; rintro e w4 ⟨rfl, n, rfl⟩; have hl2 := hlook n)
              | (go_at_call 47; refine (hpart n).mono ?_; rintro e w5 ⟨rfl, hg5, _⟩; have HR5 := Aside0.mk (res_part HI.out hg5); obtain ⟨c0, c1, c2, c3, c4, c5, c6, cf, cz⟩ := HR5.out.1.all; have f0 := cf 0; have f1 := cf 1; have f2 := cf 2; have f3 := cf 3; have f4 := cf 4; have f5 := cf 5; have f6 := cf 6; clear cf))
            refine bodyPost_ret (res2 rfl _ _ w.heap.size 0 0 0 0 (.slice none 0 0) (.slice none 0 0) (.slice none 0 0) (.int .i64 3) rfl rfl (zeros7 (w := w5) HR5.out.1 0 0 0 0 _ _ _)) rfl ⟨?_, ?_⟩
            · have e : o = none := by rw [HO.out]; unfold readV; rw [HP.out, ← HGO.out, rg_part HB1.out (by rw [← HNL.out, ← HVL.out]; exact HPV.out)]
              rw [e]; rfl
            · exact HR5.out.2.trans (below7 w5 (Nat.le_refl _) 0 0 0 0 _ _ _)
          | some r' =>
            rw [hpv] at hpart
            have HPV := Aside0.mk hpv
            clear hpv
            go_wp2_with (first
              | (go_at_call 46; refine hcut.mono ?_; rintro e w4 ⟨rfl, n, rfl⟩; have hl2 := hlook n)
              | (go_at_call 47; refine (hpart n).mono ?_; rintro e w5 ⟨rfl, hg5, hr5⟩; have HR5 := Aside0.mk (res_part HI.out hg5); have HRR := Aside0.mk (hr5 r' rfl); have HS5 := Aside0.mk (World.ownsMap.kept (w := wr.drewN n) HI.out.seen hg5 (by simp)); clear hr5)
              | (at_mapUpdate; refine wpList_mapUpdate_own _ rfl _ _ _ 70 rfl 9 4 (Go.Maps.string_keyed Tryz.underlying9) Tryz.underlying70 _ (w.heap.size + 2) seen.length (seenD seen) rfl HS5.out (by unfold maxLen; omega) _ _ (.string N.data.toList) rfl rfl (Go.WideMaps.keyOf_string_mk Tryz.underlying9 (by unfold maxLen; omega)) (.lit (.bool true)) [] (plainElem_bool Tryz.underlying4 true) ?_; intro w6 hown6 hgrow6))
            have T := Aside0.mk (inv_part (k := N.data.toList) HI.out hg5 HRR.out hown6 hgrow6)
            have hw2 := blk_lt HBK.out
            have hw5 : wr.heap.size ≤ w5.heap.size := hg5.size
            have hbk6 := (hgrow6.block w2.heap.size (by omega) (by simp; omega)).trans ((hg5.block w2.heap.size (show w2.heap.size < wr.heap.size from hw2) (by simp; omega)).trans HBK.out)
            go_roundw
            case rel => exact ⟨k + 1, N.data.toList :: seen, r', by omega, by go_num, T.out, partV_len HPV.out (by rw [data_length]; omega) hrs, by simp; omega, hbk6, by rw [← HGO.out, rg_step HB1.out (by rw [← HNL.out, ← HVL.out]; exact HPV.out), HNL.out]⟩
            case measure => simp [intOf]; omega
    · obtain rfl : k = L.length := by omega
      rw [List.drop_length] at hgo
      have hP : readP s.data.toList = some r := by rw [HP.out, ← hgo]; rfl
      obtain ⟨v4, v5, v6, hr, h4, h5, h6⟩ := hI.rule
      obtain ⟨A4, c4, rfl, hc4, hC4⟩ := own_reads_i h4
      obtain ⟨A5, c5, rfl, hc5, hC5⟩ := own_reads_i h5
      obtain ⟨A6, c6, rfl, hc6, hC6⟩ := own_reads_k h6
      have hright := recur_Right_c r.a0 r.a1 r.a2 r.a3 A4 A5 A6 c4 c5 c6 r.m r.d r.k (rightB r) (by unfold rightB; simp) wr hC4 hc4 hC5 hc5 hC6 hc6 hrs.1 hrs.2.1 hrs.2.2
      obtain ⟨rb, hrb⟩ : ∃ rb, rb = rightB r := ⟨_, rfl⟩
      rw [← hrb] at hright
      have HP2 := Aside0.mk hP
      have HRB := Aside0.mk hrb
      have HI := Aside0.mk hI
      have H4 := Aside0.mk h4
      have H5 := Aside0.mk h5
      have H6 := Aside0.mk h6
      obtain ⟨d0, d1, d2, d3, d4, d5, d6, df, dz⟩ := hr.all
      have HR := Aside0.mk hr
      clear hgo hP hrb hI h4 h5 h6 hr df hC4 hC5 hC6
      cases rb with
      | true =>
        go_wp2_with (go_at_call 24; refine hright.mono ?_; rintro e w5 ⟨rfl, hb5⟩; have I5 := Aside0.mk (HI.out.next hb5); obtain ⟨c0, c1, c2, c3, c4, c5, c6, cf, cz⟩ := I5.out.res.all; have f0 := cf 0; have f1 := cf 1; have f2 := cf 2; have f3 := cf 3; have f4 := cf 4; have f5 := cf 5; have f6 := cf 6; clear cf; obtain ⟨e0, e1, e2, e3, e4, e5, e6, ef, ez⟩ := (RuleAt.all (w := w5) (blk_below HR.out hb5)); clear ef)
        refine bodyPost_ret (res2 rfl _ _ w.heap.size r.a0 r.a1 r.a2 r.a3 _ _ _ (.int .i64 0) rfl rfl (zeros7 (w := w5) I5.out.res r.a0 r.a1 r.a2 r.a3 _ _ _)) rfl ⟨?_, ?_⟩
        · have e : o = some r := by rw [HO.out]; unfold readV; rw [HP2.out]; simp only; rw [← HRB.out]; rfl
          rw [e]
          exact ⟨_, _, _, rfl, own7 (pw_own_below H4.out hb5) (by omega) _ _ _ _ _ _ _, own7 (pw_own_below H5.out hb5) (by omega) _ _ _ _ _ _ _, own7 (pw_own_below H6.out hb5) (by omega) _ _ _ _ _ _ _⟩
        · exact I5.out.below.trans (below7 w5 (Nat.le_refl _) r.a0 r.a1 r.a2 r.a3 _ _ _)
      | false =>
        go_wp2_with (go_at_call 24; refine hright.mono ?_; rintro e w5 ⟨rfl, hb5⟩; have I5 := Aside0.mk (HI.out.next hb5); obtain ⟨c0, c1, c2, c3, c4, c5, c6, cf, cz⟩ := I5.out.res.all; have f0 := cf 0; have f1 := cf 1; have f2 := cf 2; have f3 := cf 3; have f4 := cf 4; have f5 := cf 5; have f6 := cf 6; clear cf)
        refine bodyPost_ret (res2 rfl _ _ w.heap.size 0 0 0 0 (.slice none 0 0) (.slice none 0 0) (.slice none 0 0) (.int .i64 3) rfl rfl (zeros7 (w := w5) I5.out.res 0 0 0 0 _ _ _)) rfl ⟨?_, ?_⟩
        · have e : o = none := by rw [HO.out]; unfold readV; rw [HP2.out]; simp only; rw [← HRB.out]; rfl
          rw [e]; rfl
        · exact I5.out.below.trans (below7 w5 (Nat.le_refl _) 0 0 0 0 _ _ _)
end Go.Proofs.YtfbmjonhohebiaaGreatDoor
end
section
set_option linter.unusedVariables false
set_option linter.unusedSimpArgs false
namespace Go.Proofs.YtfbmjonhohebiaaGreatDoor
open Go.RowKit Go.Shelf Go.Proofs.YtfbmjonhohebiaaGreatDoorW.PrintWords Go.Proofs.YtfbmjonhohebiaaGreatDoorW.PrintLast Go.Proofs.YtfbmjonhohebiaaGreatDoorW.PrintMore PRecurExpands
attribute [local go_sem] Oper.semAt_some max2_int min2_int max_two min_two max_three min_three max_four min_four
def daysL (hit : Int → Bool) (step lim : Int) : Nat → Int → List Int
  | 0, _ => []
  | n + 1, d => if d ≤ lim then (if hit d then d :: daysL hit step lim n (d + step) else daysL hit step lim n (d + step)) else []
theorem daysL_more (hit : Int → Bool) (step lim : Int) (hs : 1 ≤ step) : ∀ (n m : Nat) (d : Int), (lim + 1 - d).toNat ≤ n → (lim + 1 - d).toNat ≤ m → daysL hit step lim n d = daysL hit step lim m d := by
  intro n
  induction n with
  | zero =>
    intro m d h1 h2
    cases m with
    | zero => rfl
    | succ m => simp only [daysL]; rw [if_neg (by omega)]
  | succ n ih =>
    intro m d h1 h2
    cases m with
    | zero => simp only [daysL]; rw [if_neg (by omega)]
    | succ m =>
      simp only [daysL]
      by_cases h : d ≤ lim
      · rw [if_pos h, if_pos h, ih m (d + step) (by omega) (by omega)]
      · rw [if_neg h, if_neg h]
def daysF (hit : Int → Bool) (step lim d : Int) : List Int := daysL hit step lim (lim + 1 - d).toNat d
theorem daysF_over (hit : Int → Bool) (step lim d : Int) (h : lim < d) : daysF hit step lim d = [] := by
  unfold daysF
  rw [show (lim + 1 - d).toNat = 0 by omega]; rfl
theorem daysF_hit (hit : Int → Bool) (step lim d : Int) (hs : 1 ≤ step) (h : d ≤ lim) (hh : hit d = true) : daysF hit step lim d = d :: daysF hit step lim (d + step) := by
  unfold daysF
  obtain ⟨n, hn⟩ : ∃ n, (lim + 1 - d).toNat = n + 1 := ⟨(lim - d).toNat, by omega⟩
  rw [hn]
  simp only [daysL]
  rw [if_pos h, if_pos hh, daysL_more hit step lim hs n (lim + 1 - (d + step)).toNat (d + step) (by omega) (Nat.le_refl _)]
theorem daysF_miss (hit : Int → Bool) (step lim d : Int) (hs : 1 ≤ step) (h : d ≤ lim) (hh : hit d = false) : daysF hit step lim d = daysF hit step lim (d + step) := by
  unfold daysF
  obtain ⟨n, hn⟩ : ∃ n, (lim + 1 - d).toNat = n + 1 := ⟨(lim - d).toNat, by omega⟩
  rw [hn]
  simp only [daysL]
  rw [if_pos h, if_neg (by rw [hh]; decide), daysL_more hit step lim hs n (lim + 1 - (d + step)).toNat (d + step) (by omega) (Nat.le_refl _)]
noncomputable def hitV (a0 a1 : Int) (l4 l5 : List Int) (l6 : List S59) (first d : Int) : Bool := d == first || matchV a0 a1 l4 l5 l6 first d
noncomputable def daysV (a0 a1 : Int) (l4 l5 : List Int) (l6 : List S59) (first lim : Int) : List Int := daysF (hitV a0 a1 l4 l5 l6 first) (if a0 = 1 then a1 else 1) lim first
theorem abides_below {β : Type} {B : Nat} {J : β → World → Prop} (hJ : AbidesFrom B J) {s : β} {W W' : World} (h : J s W) (hb : Below W.heap.size W W') : J s W' :=
  hJ s W W' none h (grown_of_below hb none) (fun r e => by cases e)
set_option maxRecDepth 100000 in
set_option maxHeartbeats 4000000 in
theorem recur_days1 (n l M Br Bf Bl : Nat) (Kp : World → World → Prop) (hKt : ∀ {A B C : World}, Kp A B → Kp B C → Kp A C) (hKc : ∀ {A B : World}, M ≤ A.heap.size → Below A.heap.size A B → Kp A B) (hKs : ∀ {A B : World}, Kp A B → A.heap.size ≤ B.heap.size) (a0 a1 a2 a3 : Int) (A4 A5 A6 : Option Addr) (c4 c5 c6 : Nat) (l4 l5 : List Int) (l6 : List S59) (first lim : Int) (J Jx : List Int → World → Prop) (hn : 1 ≤ n)
    (hc4 : l4.length ≤ c4) (hc5 : l5.length ≤ c5) (hc6 : l6.length ≤ c6) (hl4 : l4.length ≤ 1000000000) (hl5 : l5.length ≤ 1000000000) (hl6 : l6.length ≤ 1000000000)
    (hg0 : 1 ≤ a0) (hg1 : a0 ≤ 4) (hi0 : 1 ≤ a1) (hi1 : a1 ≤ 1000) (hf0 : 0 ≤ first) (hf1 : first ≤ 2932896) (hm0 : 0 ≤ lim) (hm1 : lim ≤ 2932896)
    (hY : ∀ pre x W, J pre W → pre.length < (daysV a0 a1 l4 l5 l6 first lim).length → YieldAt Fence.wide (n - 1) Tryz.prog l #[.int .i64 x] W fun e W' =>
      (e = .returned (.bool true) ∧ J (pre ++ [x]) W' ∧ Kp W W') ∨ (e = .returned (.bool false) ∧ Jx (pre ++ [x]) W'))
    (W : World) (hn₀ : M ≤ W.heap.size) (hJ : AbidesFrom W.heap.size J)
    (hr4 : ∀ W', Kp W W' → Kd.C (Kd.int .i64) W' A4 l4.length l4) (hr5 : ∀ W', Kp W W' → Kd.C (Kd.int .i64) W' A5 l5.length l5) (hr6 : ∀ W', Kp W W' → Kd.C k59 W' A6 l6.length l6)
    (hR : ∀ W', Kp W W' → W'.heap[Br]? = some (.cells #[.int .i64 a0, .int .i64 a1, .int .i64 a2, .int .i64 a3, .slice A4 l4.length c4, .slice A5 l5.length c5, .slice A6 l6.length c6] 25 (0, 0)))
    (hF : ∀ W', Kp W W' → W'.heap[Bf]? = some (.cells #[.int .i64 first] 2 (0, 0))) (hL : ∀ W', Kp W W' → W'.heap[Bl]? = some (.cells #[.int .i64 lim] 2 (0, 0))) (h0 : J [] W) :
    CallsIn Fence.wide n Tryz.prog 65 #[.func (.yield l) #[] #[], .pointer (some ⟨Br, 0, none⟩), .pointer (some ⟨Bf, 0, none⟩), .pointer (some ⟨Bl, 0, none⟩)] W fun e W' => (∃ v, e = .returned v) ∧
      ((∃ ys, ys = daysV a0 a1 l4 l5 l6 first lim ∧ J ys W') ∨ (∃ pre, pre <+: daysV a0 a1 l4 l5 l6 first lim ∧ Jx pre W')) := by
  have HR4 := Aside0.mk hr4
  have HR5 := Aside0.mk hr5
  have HR6 := Aside0.mk hr6
  have HY := Aside0.mk hY
  have HJ := Aside0.mk hJ
  have HR := Aside0.mk hR
  have HF := Aside0.mk hF
  have HL := Aside0.mk hL
  clear hr4 hr5 hr6 hY hJ hR hF hL
  have hK0 : Kp W W := hKc hn₀ (Below.refl _ _)
  have cR : ∀ j, W.cell? ⟨Br, j, none⟩ = _ := blk_cell (HR.out W hK0)
  have cF := blk_cell (HF.out W hK0) 0
  have cL := blk_cell (HL.out W hK0) 0
  have c0 := cR 0
  have c1 := cR 1
  clear cR
  simp at c0 c1 cF cL
  by_cases g1 : (a0 == 1) = true
  ·
    have hs0 : (1 : Int) ≤ a1 := by omega
    have HA := Aside0.mk (show daysV a0 a1 l4 l5 l6 first lim = daysF (hitV a0 a1 l4 l5 l6 first) a1 lim first by unfold daysV; first | rw [if_pos (by simpa using g1)] | rw [if_neg (by simpa using g1)])
    refine callsIn_of_wp Tryz.func65 rfl trivial ?_ rfl
    simp only [Tryz.ntmps65, List.size_toArray, List.length_cons, List.length_nil, Nat.reduceAdd, Nat.reduceSub, Array.replicate_succ, Array.replicate_zero, List.push_toArray, List.append_toArray, List.nil_append, List.cons_append]
    gi_wp2
    gi_loopw [6] (fun d wr => ∃ (x : Int) (pre : List Int), d = .int .i64 x ∧ first ≤ x ∧ x ≤ 2933896 ∧ Aside0 (pre ++ daysF (hitV a0 a1 l4 l5 l6 first) a1 lim x = daysV a0 a1 l4 l5 l6 first lim) ∧ Aside0 (J pre wr) ∧ Aside0 (Kp W wr))
      (fun d _ => (2933897 - intOf d).toNat)
    case atStart => exact ⟨first, [], rfl, Int.le_refl _, by omega, ⟨by rw [HA.out]; rfl⟩, ⟨h0⟩, ⟨hK0⟩⟩
    case round =>
      obtain ⟨x, pre, rfl, hx0, hx1, HP, HJp, hb⟩ := hrel
      clear h0 c0 c1 cF cL
      have hNR : wr.heap[Br]? = _ := HR.out wr hb.out
      have cR := blk_cell hNR
      have cF := blk_cell (HF.out wr hb.out) 0
      have cL := blk_cell (HL.out wr hb.out) 0
      have c0 := cR 0
      have c1 := cR 1
      have c2 := cR 2
      have c3 := cR 3
      have d4 := cR 4
      have d5 := cR 5
      have d6 := cR 6
      clear cR
      simp at c0 c1 c2 c3 d4 d5 d6 cF cL
      have HN := Aside0.mk hNR
      clear hNR
      have hb' : M ≤ wr.heap.size := Nat.le_trans hn₀ (hKs hb.out)
      by_cases hlim : x ≤ lim
      · by_cases hfirst : (x == first) = true
        · have hp : (pre ++ x :: daysF (hitV a0 a1 l4 l5 l6 first) a1 lim (x + a1)) = daysV a0 a1 l4 l5 l6 first lim := by
            rw [← HP.out, daysF_hit _ _ _ _ hs0 hlim (by unfold hitV; rw [hfirst]; rfl)]
          obtain ⟨fn, tmps, assign, body, hy, hR⟩ := HY.out pre x wr HJp.out (by rw [← hp]; simp)
          have HPP := Aside0.mk hp
          clear hp
          gi_wp2
          refine ⟨trivial, ?_⟩
          gi_wp2
          refine hR.mono ?_
          rintro e W3 (⟨rfl, hJ3, hk3⟩ | ⟨rfl, hJx3⟩)
          · gi_wp2
            go_roundw
            case rel => exact ⟨x + a1, pre ++ [x], rfl, by omega, by omega, ⟨by rw [← HPP.out]; simp⟩, ⟨hJ3⟩, ⟨hKt hb.out hk3⟩⟩
            case measure => simp [intOf]; omega
          · gi_wp2
            refine bodyPost_ret (results_none rfl _ _ _) rfl ?_
            exact ⟨⟨_, rfl⟩, .inr ⟨pre ++ [x], ⟨daysF (hitV a0 a1 l4 l5 l6 first) a1 lim (x + a1), by rw [← HPP.out]; simp⟩, hJx3⟩⟩
        · have hfirst' : (x == first) = false := by simpa using hfirst
          clear hfirst
          by_cases hm : matchV a0 a1 l4 l5 l6 first x = true
          · have hp : (pre ++ x :: daysF (hitV a0 a1 l4 l5 l6 first) a1 lim (x + a1)) = daysV a0 a1 l4 l5 l6 first lim := by
              rw [← HP.out, daysF_hit _ _ _ _ hs0 hlim (by unfold hitV; rw [hfirst', hm]; rfl)]
            have HPP := Aside0.mk hp
            clear hp
            gi_wp2_with (refine ⟨trivial, ?_⟩; gi_at_call 27; refine (callsIn_wide.2 (recur_match a0 a1 a2 a3 A4 A5 A6 c4 c5 c6 l4 l5 l6 first x wr (HR4.out _ hb.out) hc4 (HR5.out _ hb.out) hc5 (HR6.out _ hb.out) hc6 hl4 hl5 hl6 hg0 hg1 hi0 hi1 hf0 hf1 (by omega) (by omega))).mono ?_; rintro e w2 ⟨rfl, hb2⟩; obtain ⟨fn, tmps, assign, body, hy, hR⟩ := HY.out pre x w2 (abides_below HJ.out HJp.out hb2) (by rw [← HPP.out]; simp))
            refine hR.mono ?_
            rintro e W3 (⟨rfl, hJ3, hk3⟩ | ⟨rfl, hJx3⟩)
            · gi_wp2
              go_roundw
              case rel => exact ⟨x + a1, pre ++ [x], rfl, by omega, by omega, ⟨by rw [← HPP.out]; simp⟩, ⟨hJ3⟩, ⟨hKt (hKt hb.out (hKc hb' hb2)) hk3⟩⟩
              case measure => simp [intOf]; omega
            · gi_wp2
              refine bodyPost_ret (results_none rfl _ _ _) rfl ?_
              exact ⟨⟨_, rfl⟩, .inr ⟨pre ++ [x], ⟨daysF (hitV a0 a1 l4 l5 l6 first) a1 lim (x + a1), by rw [← HPP.out]; simp⟩, hJx3⟩⟩
          · have hm' : matchV a0 a1 l4 l5 l6 first x = false := by simpa using hm
            clear hm
            have hp : (pre ++ daysF (hitV a0 a1 l4 l5 l6 first) a1 lim (x + a1)) = daysV a0 a1 l4 l5 l6 first lim := by
              rw [← HP.out, daysF_miss _ _ _ _ hs0 hlim (by unfold hitV; rw [hfirst', hm']; rfl)]
            have HPP := Aside0.mk hp
            clear hp
            gi_wp2_with (refine ⟨trivial, ?_⟩; gi_at_call 27; refine (callsIn_wide.2 (recur_match a0 a1 a2 a3 A4 A5 A6 c4 c5 c6 l4 l5 l6 first x wr (HR4.out _ hb.out) hc4 (HR5.out _ hb.out) hc5 (HR6.out _ hb.out) hc6 hl4 hl5 hl6 hg0 hg1 hi0 hi1 hf0 hf1 (by omega) (by omega))).mono ?_; rintro e w2 ⟨rfl, hb2⟩)
            refine ⟨fun _ h => (by cases h), ?_⟩
            gi_wp2
            go_roundw
            case rel => exact ⟨x + a1, pre, rfl, by omega, by omega, HPP, ⟨abides_below HJ.out HJp.out hb2⟩, ⟨hKt hb.out (hKc hb' hb2)⟩⟩
            case measure => simp [intOf]; omega
      · gi_wp2
        go_end0
        exact ⟨⟨_, rfl⟩, .inl (by have h := HP.out; rw [daysF_over _ _ _ _ (by omega), List.append_nil] at h; rw [← h]; exact HJp.out)⟩
  · have g1 : (a0 == 1) = false := by simpa using g1
    have hs0 : (1 : Int) ≤ (1 : Int) := by omega
    have HA := Aside0.mk (show daysV a0 a1 l4 l5 l6 first lim = daysF (hitV a0 a1 l4 l5 l6 first) (1 : Int) lim first by unfold daysV; first | rw [if_pos (by simpa using g1)] | rw [if_neg (by simpa using g1)])
    refine callsIn_of_wp Tryz.func65 rfl trivial ?_ rfl
    simp only [Tryz.ntmps65, List.size_toArray, List.length_cons, List.length_nil, Nat.reduceAdd, Nat.reduceSub, Array.replicate_succ, Array.replicate_zero, List.push_toArray, List.append_toArray, List.nil_append, List.cons_append]
    gi_wp2
    gi_loopw [6] (fun d wr => ∃ (x : Int) (pre : List Int), d = .int .i64 x ∧ first ≤ x ∧ x ≤ 2933896 ∧ Aside0 (pre ++ daysF (hitV a0 a1 l4 l5 l6 first) (1 : Int) lim x = daysV a0 a1 l4 l5 l6 first lim) ∧ Aside0 (J pre wr) ∧ Aside0 (Kp W wr))
      (fun d _ => (2933897 - intOf d).toNat)
    case atStart => exact ⟨first, [], rfl, Int.le_refl _, by omega, ⟨by rw [HA.out]; rfl⟩, ⟨h0⟩, ⟨hK0⟩⟩
    case round =>
      obtain ⟨x, pre, rfl, hx0, hx1, HP, HJp, hb⟩ := hrel
      clear h0 c0 c1 cF cL
      have hNR : wr.heap[Br]? = _ := HR.out wr hb.out
      have cR := blk_cell hNR
      have cF := blk_cell (HF.out wr hb.out) 0
      have cL := blk_cell (HL.out wr hb.out) 0
      have c0 := cR 0
      have c1 := cR 1
      have c2 := cR 2
      have c3 := cR 3
      have d4 := cR 4
      have d5 := cR 5
      have d6 := cR 6
      clear cR
      simp at c0 c1 c2 c3 d4 d5 d6 cF cL
      have HN := Aside0.mk hNR
      clear hNR
      have hb' : M ≤ wr.heap.size := Nat.le_trans hn₀ (hKs hb.out)
      by_cases hlim : x ≤ lim
      · by_cases hfirst : (x == first) = true
        · have hp : (pre ++ x :: daysF (hitV a0 a1 l4 l5 l6 first) (1 : Int) lim (x + 1)) = daysV a0 a1 l4 l5 l6 first lim := by
            rw [← HP.out, daysF_hit _ _ _ _ hs0 hlim (by unfold hitV; rw [hfirst]; rfl)]
          obtain ⟨fn, tmps, assign, body, hy, hR⟩ := HY.out pre x wr HJp.out (by rw [← hp]; simp)
          have HPP := Aside0.mk hp
          clear hp
          gi_wp2
          refine ⟨trivial, ?_⟩
          gi_wp2
          refine hR.mono ?_
          rintro e W3 (⟨rfl, hJ3, hk3⟩ | ⟨rfl, hJx3⟩)
          · gi_wp2
            go_roundw
            case rel => exact ⟨x + 1, pre ++ [x], rfl, by omega, by omega, ⟨by rw [← HPP.out]; simp⟩, ⟨hJ3⟩, ⟨hKt hb.out hk3⟩⟩
            case measure => simp [intOf]; omega
          · gi_wp2
            refine bodyPost_ret (results_none rfl _ _ _) rfl ?_
            exact ⟨⟨_, rfl⟩, .inr ⟨pre ++ [x], ⟨daysF (hitV a0 a1 l4 l5 l6 first) (1 : Int) lim (x + 1), by rw [← HPP.out]; simp⟩, hJx3⟩⟩
        · have hfirst' : (x == first) = false := by simpa using hfirst
          clear hfirst
          by_cases hm : matchV a0 a1 l4 l5 l6 first x = true
          · have hp : (pre ++ x :: daysF (hitV a0 a1 l4 l5 l6 first) (1 : Int) lim (x + 1)) = daysV a0 a1 l4 l5 l6 first lim := by
              rw [← HP.out, daysF_hit _ _ _ _ hs0 hlim (by unfold hitV; rw [hfirst', hm]; rfl)]
            have HPP := Aside0.mk hp
            clear hp
            gi_wp2_with (refine ⟨trivial, ?_⟩; gi_at_call 27; refine (callsIn_wide.2 (recur_match a0 a1 a2 a3 A4 A5 A6 c4 c5 c6 l4 l5 l6 first x wr (HR4.out _ hb.out) hc4 (HR5.out _ hb.out) hc5 (HR6.out _ hb.out) hc6 hl4 hl5 hl6 hg0 hg1 hi0 hi1 hf0 hf1 (by omega) (by omega))).mono ?_; rintro e w2 ⟨rfl, hb2⟩; obtain ⟨fn, tmps, assign, body, hy, hR⟩ := HY.out pre x w2 (abides_below HJ.out HJp.out hb2) (by rw [← HPP.out]; simp))
            refine hR.mono ?_
            rintro e W3 (⟨rfl, hJ3, hk3⟩ | ⟨rfl, hJx3⟩)
            · gi_wp2
              go_roundw
              case rel => exact ⟨x + 1, pre ++ [x], rfl, by omega, by omega, ⟨by rw [← HPP.out]; simp⟩, ⟨hJ3⟩, ⟨hKt (hKt hb.out (hKc hb' hb2)) hk3⟩⟩
              case measure => simp [intOf]; omega
            · gi_wp2
              refine bodyPost_ret (results_none rfl _ _ _) rfl ?_
              exact ⟨⟨_, rfl⟩, .inr ⟨pre ++ [x], ⟨daysF (hitV a0 a1 l4 l5 l6 first) (1 : Int) lim (x + 1), by rw [← HPP.out]; simp⟩, hJx3⟩⟩
          · have hm' : matchV a0 a1 l4 l5 l6 first x = false := by simpa using hm
            clear hm
            have hp : (pre ++ daysF (hitV a0 a1 l4 l5 l6 first) (1 : Int) lim (x + 1)) = daysV a0 a1 l4 l5 l6 first lim := by
              rw [← HP.out, daysF_miss _ _ _ _ hs0 hlim (by unfold hitV; rw [hfirst', hm']; rfl)]
            have HPP := Aside0.mk hp
            clear hp
            gi_wp2_with (refine ⟨trivial, ?_⟩; gi_at_call 27; refine (callsIn_wide.2 (recur_match a0 a1 a2 a3 A4 A5 A6 c4 c5 c6 l4 l5 l6 first x wr (HR4.out _ hb.out) hc4 (HR5.out _ hb.out) hc5 (HR6.out _ hb.out) hc6 hl4 hl5 hl6 hg0 hg1 hi0 hi1 hf0 hf1 (by omega) (by omega))).mono ?_; rintro e w2 ⟨rfl, hb2⟩)
            refine ⟨fun _ h => (by cases h), ?_⟩
            gi_wp2
            go_roundw
            case rel => exact ⟨x + 1, pre, rfl, by omega, by omega, HPP, ⟨abides_below HJ.out HJp.out hb2⟩, ⟨hKt hb.out (hKc hb' hb2)⟩⟩
            case measure => simp [intOf]; omega
      · gi_wp2
        go_end0
        exact ⟨⟨_, rfl⟩, .inl (by have h := HP.out; rw [daysF_over _ _ _ _ (by omega), List.append_nil] at h; rw [← h]; exact HJp.out)⟩
set_option maxRecDepth 100000 in
set_option maxHeartbeats 4000000 in
theorem recur_days (n : Nat) (a0 a1 a2 a3 : Int) (v4 v5 v6 : Value) (first lim : Int) (w : World) :
    CallsIn Fence.wide n Tryz.prog 30 #[.agg #[.int .i64 a0, .int .i64 a1, .int .i64 a2, .int .i64 a3, v4, v5, v6], .int .i64 first, .int .i64 lim] w fun e w' =>
      e = .returned (.func (.func 65) #[] #[.pointer (some ⟨w.heap.size, 0, none⟩), .pointer (some ⟨w.heap.size + 1, 0, none⟩), .pointer (some ⟨w.heap.size + 1 + 1, 0, none⟩)]) ∧
      w' = ((w.alloc (.cells #[.int .i64 a0, .int .i64 a1, .int .i64 a2, .int .i64 a3, v4, v5, v6] 25)).alloc (.cells #[.int .i64 first] 2)).alloc (.cells #[.int .i64 lim] 2) := by
  refine callsIn_of_wp Tryz.func30 rfl trivial ?_ rfl
  simp only [Tryz.ntmps30, List.size_toArray, List.length_cons, List.length_nil, Nat.reduceAdd, Nat.reduceSub, Array.replicate_succ, Array.replicate_zero, List.push_toArray, List.append_toArray, List.nil_append, List.cons_append]
  gi_wp2
  go_ret
  exact ⟨rfl, rfl⟩
end Go.Proofs.YtfbmjonhohebiaaGreatDoor
end
