/- Texts merged: what the law needs, and no more. -/
import Derived.Test.YtfbmjonhohebiaaGreatDoorQeq
import Derived.Maps.OwnSet
section
set_option linter.unusedVariables false
set_option linter.unusedSimpArgs false
namespace Go.Proofs.YtfbmjonhohebiaaGreatDoor
open Go.RowKit Go.Proofs.YtfbmjonhohebiaaGreatDoorW.PrintWords Go.Proofs.YtfbmjonhohebiaaGreatDoorW.PrintLast Go.Proofs.YtfbmjonhohebiaaGreatDoorW.PrintMore PRecurExpands
def frUp (l : List UInt8) (f : Int) : Nat → Int
  | 0 => f
  | k + 1 => if freqL ((k : Int) + 1) = l then (k : Int) + 1 else frUp l f k
def frOk (l : List UInt8) : Nat → Bool
  | 0 => false
  | k + 1 => if freqL ((k : Int) + 1) = l then true else frOk l k
theorem grown_set (W : World) (b i : Nat) (v : Value) : W.grownBy (W.setCell ⟨b, i, none⟩ v) (some b) :=
  ⟨rfl, rfl, rfl, by simp, fun k _ hk => Below.heap_setCell _ _ _ k (fun e => hk (by rw [e]))⟩
theorem fr_yes {l : List UInt8} {X : ByteArray} (h : (l == X.toList) = true) : l = X.data.toList := by rw [← Lib.toList_data]; simpa using h
theorem fr_no {l : List UInt8} {X : ByteArray} (h : (l == X.toList) = false) : ¬ l = X.data.toList := by rw [← Lib.toList_data]; simpa using h
def cells7 (a0 a1 a2 a3 : Int) (v4 v5 v6 : Value) : Array Value := #[.int .i64 a0, .int .i64 a1, .int .i64 a2, .int .i64 a3, v4, v5, v6]
def RuleAt (w : World) (p : Nat) (a0 a1 a2 a3 : Int) (v4 v5 v6 : Value) : Prop := w.heap[p]? = some (.cells (cells7 a0 a1 a2 a3 v4 v5 v6) 25 (0, 0))
theorem RuleAt.all {w : World} {p : Nat} {a0 a1 a2 a3 : Int} {v4 v5 v6 : Value} (h : RuleAt w p a0 a1 a2 a3 v4 v5 v6) :
    w.cell? ⟨p, 0, none⟩ = some (.int .i64 a0) ∧ w.cell? ⟨p, 1, none⟩ = some (.int .i64 a1) ∧ w.cell? ⟨p, 2, none⟩ = some (.int .i64 a2) ∧ w.cell? ⟨p, 3, none⟩ = some (.int .i64 a3) ∧
    w.cell? ⟨p, 4, none⟩ = some v4 ∧ w.cell? ⟨p, 5, none⟩ = some v5 ∧ w.cell? ⟨p, 6, none⟩ = some v6 ∧ (∀ i, w.frozen? ⟨p, i, none⟩ = false) ∧ p < w.heap.size :=
  ⟨blk_cell h 0, blk_cell h 1, blk_cell h 2, blk_cell h 3, blk_cell h 4, blk_cell h 5, blk_cell h 6, fun i => blk_frozen h i, blk_lt h⟩
theorem grown_trans {a b c : World} {row : Option Nat} (h : a.grownBy b row) (k : b.grownBy c row) : a.grownBy c row :=
  ⟨k.os.trans h.os, k.tape.trans h.tape, k.output.trans h.output, Nat.le_trans h.size k.size, fun i hi hne => (k.block i (Nat.lt_of_lt_of_le hi h.size) hne).trans (h.block i hi hne)⟩
set_option maxRecDepth 100000 in
set_option maxHeartbeats 2000000 in
theorem part_FREQ (X : ByteArray) (p : Nat) (a0 a1 a2 a3 : Int) (v4 v5 v6 : Value) (w : World) (hR : RuleAt w p a0 a1 a2 a3 v4 v5 v6) :
    Calls Tryz.prog 47 #[.pointer (some ⟨p, 0, none⟩), .string ⟨#[70, 82, 69, 81]⟩, .string X] w fun e w' => e = .returned (.bool (frOk X.data.toList 4)) ∧
      w.grownBy w' (some p) ∧ RuleAt w' p (frUp X.data.toList a0 4) a1 a2 a3 v4 v5 v6 := by
  have HR := Aside0.mk hR
  clear hR
  go_enter Tryz.func47, Tryz.ntmps47
  go_wp2
  go_loopw [7, 14] (fun b i wr => ∃ k : Nat, k ≤ 4 ∧ i = .int .i64 k ∧ b = .bool (frOk X.data.toList k) ∧ w.grownBy wr (some p) ∧ RuleAt wr p (frUp X.data.toList a0 k) a1 a2 a3 v4 v5 v6) (fun b i _ => 4 - (intOf i).toNat)
  case atStart => exact ⟨0, by omega, rfl, rfl, grown_of_below (Below.refl _ _) _, HR.out⟩
  case round =>
    obtain ⟨k, hk, rfl, rfl, hg, hr⟩ := hrel
    by_cases h4 : k < 4
    · have HG := Aside0.mk hg
      have HRR := Aside0.mk hr
      clear hg hr
      go_wp2_with (go_at_call 33; refine (recur_freq ((k : Int) + 1) (by omega) (by omega) _).mono ?_; rintro e w3 ⟨rfl, hb3⟩; obtain ⟨c0, c1, c2, c3, c4, c5, c6, cf, cz⟩ := (show RuleAt w3 p (frUp X.data.toList a0 k) a1 a2 a3 v4 v5 v6 from blk_below HRR.out hb3).all; have cf0 := cf 0; clear cf)
      · have l1 : (freqL ((k : Int) + 1) == X.toList) = true := by assumption
        go_roundw
        case rel => exact ⟨k + 1, by omega, by go_num, by rw [frOk, if_pos (fr_yes l1)], grown_trans (grown_trans HG.out (grown_of_below hb3 _)) (grown_set _ _ _ _), by rw [frUp, if_pos (fr_yes l1)]; exact blk_set (blk_below HRR.out hb3) 0 _⟩
        case measure => simp [intOf]; omega
      · have l1 : (freqL ((k : Int) + 1) == X.toList) = false := by assumption
        go_roundw
        case rel => exact ⟨k + 1, by omega, by go_num, by rw [frOk, if_neg (fr_no l1)], grown_trans HG.out (grown_of_below hb3 _), by rw [frUp, if_neg (fr_no l1)]; exact blk_below HRR.out hb3⟩
        case measure => simp [intOf]; omega
    · obtain rfl : k = 4 := by omega
      go_wp2
      go_ret
      exact ⟨rfl, hg, hr⟩
set_option maxRecDepth 100000 in
set_option maxHeartbeats 2000000 in
theorem part_INTERVAL (X : ByteArray) (hX : X.size ≤ 140737488351232) (p : Nat) (a0 a1 a2 a3 : Int) (v4 v5 v6 : Value) (w : World) (hG : Globs w) (hR : RuleAt w p a0 a1 a2 a3 v4 v5 v6) :
    Calls Tryz.prog 47 #[.pointer (some ⟨p, 0, none⟩), .string ⟨#[73, 78, 84, 69, 82, 86, 65, 76]⟩, .string X] w fun e w' => e = .returned (.bool (numB X.data.toList)) ∧
      w.grownBy w' (some p) ∧ RuleAt w' p a0 (numV X.data.toList) a2 a3 v4 v5 v6 := by
  have HR := Aside0.mk hR
  clear hR
  go_enter Tryz.func47, Tryz.ntmps47
  go_wp2_with (go_at_call 74; refine (recur_number X hX _ hG).mono ?_; rintro e w3 ⟨rfl, hb3⟩; obtain ⟨c0, c1, c2, c3, c4, c5, c6, cf, cz⟩ := (show RuleAt w3 p a0 a1 a2 a3 v4 v5 v6 from blk_below HR.out hb3).all; have cf0 := cf 1; clear cf)
  go_ret
  exact ⟨rfl, grown_trans (grown_of_below hb3 _) (grown_set _ _ _ _), blk_set (blk_below HR.out hb3) 1 _⟩
set_option maxRecDepth 100000 in
set_option maxHeartbeats 2000000 in
theorem part_COUNT (X : ByteArray) (hX : X.size ≤ 140737488351232) (p : Nat) (a0 a1 a2 a3 : Int) (v4 v5 v6 : Value) (w : World) (hG : Globs w) (hR : RuleAt w p a0 a1 a2 a3 v4 v5 v6) :
    Calls Tryz.prog 47 #[.pointer (some ⟨p, 0, none⟩), .string ⟨#[67, 79, 85, 78, 84]⟩, .string X] w fun e w' => e = .returned (.bool (numB X.data.toList && decide (0 < numV X.data.toList))) ∧
      w.grownBy w' (some p) ∧ RuleAt w' p a0 a1 (numV X.data.toList) a3 v4 v5 v6 := by
  have HR := Aside0.mk hR
  clear hR
  have hnum := recur_number X hX w hG
  obtain ⟨v, hv⟩ : ∃ v, v = numV X.data.toList := ⟨_, rfl⟩
  obtain ⟨b, hb⟩ : ∃ b, b = numB X.data.toList := ⟨_, rfl⟩
  rw [← hv, ← hb] at hnum ⊢
  clear hv hb
  cases b <;>
  ( go_enter Tryz.func47, Tryz.ntmps47
    go_wp2_with (go_at_call 74; refine hnum.mono ?_; rintro e w3 ⟨rfl, hb3⟩; obtain ⟨c0, c1, c2, c3, c4, c5, c6, cf, cz⟩ := (show RuleAt w3 p a0 a1 a2 a3 v4 v5 v6 from blk_below HR.out hb3).all; have cf0 := cf 2; clear cf)
    go_ret
    exact ⟨rfl, grown_trans (grown_of_below hb3 _) (grown_set _ _ _ _), blk_set (blk_below HR.out hb3) 2 _⟩)
set_option maxRecDepth 100000 in
set_option maxHeartbeats 2000000 in
theorem part_BYDAY (hsort : SortC) (X : ByteArray) (hX : X.size < 4294967000) (p : Nat) (a0 a1 a2 a3 : Int) (v4 v5 v6 : Value) (w : World) (hG : Globs w) (hR : RuleAt w p a0 a1 a2 a3 v4 v5 v6) :
    Calls Tryz.prog 47 #[.pointer (some ⟨p, 0, none⟩), .string ⟨#[66, 89, 68, 65, 89]⟩, .string X] w fun e w' => e = .returned (.bool (wkAll ((spl X 44).map (·.data.toList))).isSome) ∧
      w.grownBy w' (some p) ∧ ∃ v, RuleAt w' p a0 a1 a2 a3 v4 v5 v ∧ ∀ xs, wkAll ((spl X 44).map (·.data.toList)) = some xs → w'.ownsRow w.heap.size 59 2 v xs.length ((srt59 xs).flatMap enc59) := by
  have HR := Aside0.mk hR
  clear hR
  have hwk := recur_week hsort X hX w hG
  obtain ⟨o, ho⟩ : ∃ o, o = wkAll ((spl X 44).map (·.data.toList)) := ⟨_, rfl⟩
  rw [← ho] at hwk ⊢
  clear ho
  cases o with
  | none =>
    go_enter Tryz.func47, Tryz.ntmps47
    go_wp2_with (go_at_call 77; refine hwk.mono ?_; rintro e w3 ⟨rfl, hb3⟩; obtain ⟨c0, c1, c2, c3, c4, c5, c6, cf, cz⟩ := (show RuleAt w3 p a0 a1 a2 a3 v4 v5 v6 from blk_below HR.out hb3).all; have cf0 := cf 6; clear cf)
    go_ret
    exact ⟨rfl, grown_trans (grown_of_below hb3 _) (grown_set _ _ _ _), _, blk_set (blk_below HR.out hb3) 6 _, fun xs h => by cases h⟩
  | some xs =>
    go_enter Tryz.func47, Tryz.ntmps47
    go_wp2_with (go_at_call 77; refine hwk.mono ?_; rintro e w3 ⟨⟨v, rfl, hrow⟩, hb3⟩; obtain ⟨A, cv, rfl⟩ := own_slice hrow; have HROW := Aside0.mk hrow; clear hrow; obtain ⟨c0, c1, c2, c3, c4, c5, c6, cf, cz⟩ := (show RuleAt w3 p a0 a1 a2 a3 v4 v5 v6 from blk_below HR.out hb3).all; have cf0 := cf 6; clear cf)
    go_ret
    refine ⟨rfl, grown_trans (grown_of_below hb3 _) (grown_set _ _ _ _), _, blk_set (blk_below HR.out hb3) 6 _, fun ys h => ?_⟩
    injection h with h
    subst h
    refine own_move HROW.out (fun k hk => Below.heap_setCell _ _ _ k (fun e => ?_))
    have h1 := own_base HROW.out k hk
    have h2 := blk_lt HR.out
    simp at e
    omega
end Go.Proofs.YtfbmjonhohebiaaGreatDoor
end
section
set_option linter.unusedVariables false
set_option linter.unusedSimpArgs false
namespace Go.Proofs.YtfbmjonhohebiaaGreatDoor
open Go.RowKit Go.Proofs.YtfbmjonhohebiaaGreatDoorW.PrintWords Go.Proofs.YtfbmjonhohebiaaGreatDoorW.PrintLast Go.Proofs.YtfbmjonhohebiaaGreatDoorW.PrintMore PRecurExpands
def nlOne (l : List UInt8) : Option Int := if numB l = true then some (numV l) else none
def nlAll : List (List UInt8) → Option (List Int)
  | [] => some []
  | l :: ls => match nlOne l with | none => none | some x => (nlAll ls).map (x :: ·)
theorem nlAll_none {l : List UInt8} (hl : nlOne l = none) (b : List (List UInt8)) : ∀ {a : List (List UInt8)} {xs : List Int}, nlAll a = some xs → nlAll (a ++ l :: b) = none := by
  intro a
  induction a with
  | nil => intro xs _; simp [nlAll, hl]
  | cons x a ih =>
    intro xs h
    simp only [nlAll] at h
    cases hx : nlOne x with
    | none => rw [hx] at h; cases h
    | some y =>
      rw [hx] at h
      simp only [Option.map_eq_some_iff] at h
      obtain ⟨ys, h1, _⟩ := h
      simp only [List.cons_append, nlAll, hx, ih h1, Option.map_none]
theorem nlAll_some {l : List UInt8} {y : Int} (hl : nlOne l = some y) : ∀ {a : List (List UInt8)} {xs : List Int}, nlAll a = some xs → nlAll (a ++ [l]) = some (xs ++ [y]) := by
  intro a
  induction a with
  | nil => intro xs h; injection h with h; subst h; simp [nlAll, hl]
  | cons x a ih =>
    intro xs h
    simp only [nlAll] at h
    cases hx : nlOne x with
    | none => rw [hx] at h; cases h
    | some z =>
      rw [hx] at h
      simp only [Option.map_eq_some_iff] at h
      obtain ⟨ys, h1, rfl⟩ := h
      simp only [List.cons_append, nlAll, hx, ih h1, Option.map_some]
def srtI (l : List Int) : List Int := l.mergeSort fun x y => decide (x ≤ y)
theorem heap_sortedZ {w : World} {g n : Nat} {os : Array Obj} {cur : Array Value} {e : TypeId} {fr : Nat × Nat} (d : Array Int) (hb : w.heap[g]? = some (.cells cur e fr)) :
    (Go.Sort.grow (Go.Sort.putRow (Value.int .i64) (Go.Sort.ahead w n) g 0 d) os).heap[g]? = some (.cells (Go.Sort.putCells (Value.int .i64) 0 d cur) e fr) := by
  have hg : g < w.heap.size := (Array.getElem?_eq_some_iff.1 hb).1
  rw [Go.Sort.heap_grow_old _ _ (by simpa using hg)]
  simp [Go.Sort.putRow, Go.Sort.mapBlock, Go.Sort.ahead, Array.getElem?_modify, hb, Go.Sort.onCells]
theorem below_sortedZ {w : World} {g n : Nat} {os : Array Obj} (d : Array Int) {base : Nat} (hbase : base ≤ g) (hg : g < w.heap.size) : Below base w (Go.Sort.grow (Go.Sort.putRow (Value.int .i64) (Go.Sort.ahead w n) g 0 d) os) := by
  refine ⟨rfl, rfl, rfl, by simp, fun k hk => ?_⟩
  rw [Go.Sort.heap_grow_old _ _ (by simp; omega)]
  have : g ≠ k := by omega
  simp [Go.Sort.putRow, Go.Sort.mapBlock, Go.Sort.ahead, Array.getElem?_modify, this]
theorem sortI (base : Nat) (v : Value) (xs : List Int) (W : World) (hown : W.ownsRow base 3 1 v xs.length (xs.map (.int .i64))) (hlen : xs.length ≤ 4294967296) :
    Calls Tryz.prog 103 #[v] W fun e w' => e = .returned (.tuple #[]) ∧ w'.ownsRow base 3 1 v xs.length ((srtI xs).map (.int .i64)) ∧ Below base W w' := by
  rcases hown.2 with ⟨rfl, h0⟩ | ⟨g, cap, cur, rfl, hbase, hh, hc1, hc2, hcs, htk⟩
  · have hx : xs = [] := List.eq_nil_of_length_eq_zero h0
    subst hx
    refine (Tryz.slices_Sort_int_none none 0 W).mono ?_
    rintro e w' ⟨rfl, rfl⟩
    exact ⟨rfl, by simpa [srtI] using hown, Below.refl _ _⟩
  · have hcur : ∀ j, j < xs.length → cur[j]? = some (.int .i64 (xs.toArray[j]!)) := by
      intro j hj
      have : (xs.map (Value.int .i64))[j]? = some (.int .i64 (xs.toArray[j]!)) := by simp [hj]
      rw [← this, ← htk, List.getElem?_take_of_lt (by omega)]
      simp
    have hH : Go.Sort.Holds (Value.int .i64) W g 0 xs.toArray := by
      intro j hj
      refine ⟨?_, blk_frozen hh _⟩
      rw [Nat.zero_add, blk_cell hh j, hcur j (by simpa using hj)]
    refine (Tryz.slices_Sort_int g 0 cap xs W hH (blk_lt hh) (by omega)).mono ?_
    rintro e w' ⟨rfl, n, os, rfl⟩
    have hl : (srtI xs).length = xs.length := by unfold srtI; rw [List.length_mergeSort]
    refine ⟨rfl, ⟨by simp [hl], .inr ⟨g, cap, _, rfl, hbase, heap_sortedZ _ hh, hc1, hc2, by simp [Go.Sort.putCells, hcs], ?_⟩⟩, below_sortedZ _ hbase (blk_lt hh)⟩
    show ((Go.Sort.putCells (Value.int .i64) 0 (srtI xs).toArray cur).toList.take (xs.length * 1)) = _
    generalize srtI xs = ts at hl
    rw [Nat.mul_one, ← hl]
    apply List.ext_getElem?
    intro j
    by_cases hj : j < ts.length
    · rw [List.getElem?_take_of_lt hj, Array.getElem?_toList]
      simp [Go.Sort.putCells, hj, show j < cur.size by omega]
    · rw [List.getElem?_take_eq_none (by omega), List.getElem?_eq_none (by simp; omega)]
theorem info_int : (Tryz.prog.info? 3).map (fun i => (i.zero, i.size, i.bytes)) = some (some (.int .i64 0), 1, 8) := by kernel_rfl
def nlPost (o : Option (List Int)) (n₀ : Nat) (e : Ending) (w' : World) : Prop := match o with
  | none => e = .returned (.tuple #[.slice none 0 0, .bool false])
  | some xs => ∃ v, e = .returned (.tuple #[v, .bool true]) ∧ w'.ownsRow n₀ 3 1 v xs.length ((srtI xs).map (.int .i64))
theorem list_app {w W1 wr w1 : World} {n m : Nat} {v : Value} {xs : List Value} {o tmp : Obj} (hb : Below n w W1) (hbk : W1.heap[n]? = some o) (hrow : W1.ownsRow (n + 1) 3 1 v m xs) (hbq : Below W1.heap.size W1 wr) (hg : (wr.alloc tmp).grownBy w1 v.ownBlock) :
    Below n w w1 ∧ w1.heap[n]? = some o := by
  have hz := blk_lt hbk
  have h2 := hbq.size
  have key : ∀ k, v.ownBlock = some k → n + 1 ≤ k := fun k hk => own_base hrow k hk
  refine ⟨((hb.trans (hbq.mono (by omega))).alloc (by omega) _).grown hg (by simp; omega) (fun k hk => by have := key k hk; omega), blk_grown (blk_alloc (blk_below hbk hbq) _) hg (fun e => by have := key n e.symm; omega)⟩
theorem cell_one_at2 (w : World) (x : Value) (t : TypeId) {b : Nat} (h : b = w.heap.size) : ∀ j u, [x][j]? = some u → (w.alloc (.cells #[x] t)).cell? ((⟨b, 0, none⟩ : Addr).add j) = some u := by
  subst h; exact cell_one_new w x t
set_option maxRecDepth 100000 in
set_option maxHeartbeats 2000000 in
theorem recur_list (s : ByteArray) (hs : s.size < 4294967000) (w : World) (hG : Globs w) :
    Calls Tryz.prog 76 #[.string s] w fun e w' => nlPost (nlAll ((spl s 44).map (·.data.toList))) w.heap.size e w' ∧ Below w.heap.size w w' := by
  obtain ⟨m, hm⟩ := hG.maxlen
  obtain ⟨L, hL⟩ : ∃ L, L = spl s 44 := ⟨_, rfl⟩
  have hlen : Lib.countB s ⟨#[44]⟩ + 1 = L.length := by rw [hL]; exact (spl_len s 44).symm
  rw [← hL]
  have hLs : ∀ x ∈ L, x.size ≤ s.size := by rw [hL]; exact spl_mem s 44
  have hLl : L.length ≤ s.size + 1 := by rw [hL, spl_len]; have := Lib.countB_le ⟨#[44]⟩ (by decide) s.size s (Nat.le_refl _); omega
  have hcut := Tryz.strings_Split s ⟨#[44]⟩ m w (by omega) hm (by decide)
  rw [show Lib.splitB ⟨#[44]⟩ 0 (Lib.countB s ⟨#[44]⟩) s = L from hL.symm, hlen] at hcut
  have hG1 := Aside0.mk hG
  clear hG hL hlen
  go_enter Tryz.func76, Tryz.ntmps76
  go_wp2_with (go_at_call 44; refine hcut.mono ?_; rintro e w2 ⟨rfl, rfl⟩)
  have hb0 : Below w.heap.size w (w.alloc (.cells (L.map Value.string).toArray 9)) := (Below.refl _ _).alloc (Nat.le_refl _) _
  have hk0 : (w.alloc (.cells (L.map Value.string).toArray 9)).heap[w.heap.size]? = some (.cells (L.map Value.string).toArray 9) := blk_new w _
  obtain ⟨i0, hi, hz0, hz1, hz2⟩ := info_parts info_int
  go_loopw [4, 12] (fun v i wr => ∃ (k : Nat) (xs : List Int), k ≤ L.length ∧ i = .int .i64 k ∧ Below w.heap.size w wr ∧ wr.heap[w.heap.size]? = some (.cells (L.map Value.string).toArray 9) ∧ nlAll ((L.take k).map (·.data.toList)) = some xs ∧ xs.length = k ∧ wr.ownsRow (w.heap.size + 1) 3 1 v xs.length (xs.map (.int .i64))) (fun v i _ => L.length - (intOf i).toNat)
  case atStart => exact ⟨0, [], by omega, rfl, hb0, hk0, rfl, rfl, World.ownsRow_nil _ _ _ _⟩
  case round =>
    obtain ⟨k, xs, hk, rfl, hb, hbk, hall, rfl, hrow⟩ := hrel
    obtain ⟨W1, hW1⟩ : ∃ W1, W1 = wr := ⟨_, rfl⟩
    subst hW1
    have hzz1 := blk_lt hbk
    by_cases hlt : xs.length < L.length
    · obtain ⟨X, hX⟩ : ∃ X, L[xs.length]? = some X := ⟨L[xs.length], List.getElem?_eq_getElem hlt⟩
      have hXs := hLs X (List.mem_of_getElem? hX)
      have hcell : W1.cell? ⟨w.heap.size, xs.length, none⟩ = some (.string X) := by rw [blk_cell hbk]; simp [hX]
      obtain ⟨A, cv, rfl⟩ := own_slice hrow
      have HROW := Aside0.mk hrow
      have HALL := Aside0.mk hall
      have HB := Aside0.mk hb
      have HBK := Aside0.mk hbk
      have hnum := recur_number X (by omega) W1 (hG1.out.below hb)
      obtain ⟨v, hv⟩ : ∃ v, v = numV X.data.toList := ⟨_, rfl⟩
      obtain ⟨b, hbb⟩ : ∃ b, b = numB X.data.toList := ⟨_, rfl⟩
      rw [← hv, ← hbb] at hnum
      have HV := Aside0.mk hv
      have HBB := Aside0.mk hbb
      clear hrow hall hb hbk hv hbb
      cases b with
      | false =>
        go_wp2_with (go_at_call 74; refine hnum.mono ?_; rintro e w3 ⟨rfl, hb3⟩; have hz3 := hb3.size)
        go_ret2
        refine ⟨?_, HB.out.trans (hb3.mono (Nat.le_of_lt hzz1))⟩
        rw [map_split _ L _ X hX, nlAll_none (by unfold nlOne; rw [if_neg (by rw [← HBB.out]; decide)]) _ HALL.out]
        rfl
      | true =>
        go_wp2_with (first
          | (go_at_call 74; refine hnum.mono ?_; rintro e w3 ⟨rfl, hb3⟩; have hz3 := hb3.size)
          | (at_builtin; refine wpList_append_own _ rfl _ _ 22 rfl (w.heap.size + 1) 3 i0 (.int .i64 0) 1 8 Tryz.underlying22 hi hz0 hz1 hz2 rfl (by decide) _ _ _ rfl ((pw_own_below HROW.out hb3).alloc _) ⟨w3.heap.size, 0, none⟩ 1 1 [.int .i64 v] rfl rfl (cell_one_at2 _ _ _ (by simp)) (fun x hx => by simp at hx; rcases hx with rfl; rfl) (by unfold maxLen; omega) (by omega) (by simp; omega) ?_; intro v' w1 hown' hgrow _))
        have T := Aside0.mk (list_app HB.out HBK.out HROW.out hb3 hgrow)
        go_roundw
        case rel => exact ⟨xs.length + 1, xs ++ [v], by omega, by go_num, T.out.1, T.out.2, by rw [map_take _ L _ X hX]; exact nlAll_some (by unfold nlOne; rw [if_pos HBB.out.symm, HV.out]) HALL.out, by simp, by simpa using hown'⟩
        case measure => simp [intOf]; omega
    · have hkL : xs.length = L.length := by omega
      rw [hkL, List.take_length] at hall
      go_wp2_with (go_at_call 103; refine (sortI (w.heap.size + 1) _ xs _ hrow (by omega)).mono ?_; rintro e w2 ⟨rfl, hrow2, hb2⟩)
      go_ret2
      refine ⟨?_, hb.trans (hb2.mono (by omega))⟩
      rw [hall]
      exact ⟨_, rfl, own_weaken hrow2 (by omega)⟩
end Go.Proofs.YtfbmjonhohebiaaGreatDoor
end
section
set_option linter.unusedVariables false
set_option linter.unusedSimpArgs false
namespace Go.Proofs.YtfbmjonhohebiaaGreatDoor
open Go.RowKit Go.Proofs.YtfbmjonhohebiaaGreatDoorW.PrintWords Go.Proofs.YtfbmjonhohebiaaGreatDoorW.PrintLast Go.Proofs.YtfbmjonhohebiaaGreatDoorW.PrintMore PRecurExpands
def wdig (c : UInt8) : Bool := decide (48 ≤ c.toNat) && decide (c.toNat ≤ 57)
def wval (l : List UInt8) : Int := l.foldl (fun n c => 10 * n + ((c.toNat : Int) - 48)) 0
def wnum (l : List UInt8) : Int := if l.isEmpty || !l.all wdig then -1 else wval l
theorem wval_snoc (l : List UInt8) (c : UInt8) : wval (l ++ [c]) = 10 * wval l + ((c.toNat : Int) - 48) := by simp [wval, List.foldl_append]
theorem wval_rng : ∀ (l : List UInt8), l.all wdig = true → 0 ≤ wval l ∧ wval l < 10 ^ l.length := by
  intro l
  generalize hn : l.length = n
  induction n generalizing l with
  | zero => intro h; rw [List.eq_nil_of_length_eq_zero hn]; simp [wval]
  | succ n ih =>
    intro h
    obtain ⟨a, c, rfl⟩ : ∃ a c, l = a ++ [c] := by
      cases h1 : l.reverse with
      | nil => simp at h1; subst h1; simp at hn
      | cons c r => exact ⟨r.reverse, c, by rw [← List.reverse_reverse l, h1]; simp⟩
    simp only [List.all_append, Bool.and_eq_true] at h
    have h1 := ih a (by simpa using hn) h.1
    have h2 : 48 ≤ c.toNat ∧ c.toNat ≤ 57 := by simpa [wdig] using h.2
    rw [wval_snoc, Int.pow_succ]
    omega
theorem wnum_bad {l : List UInt8} {k : Nat} {c : UInt8} (h : l[k]? = some c) (hc : wdig c = false) : wnum l = -1 := by
  unfold wnum
  have : l.all wdig = false := by
    rw [List.all_eq_false]
    exact ⟨c, List.mem_of_getElem? h, by rw [hc]; decide⟩
  rw [this]
  simp
set_option maxRecDepth 100000 in
set_option maxHeartbeats 2000000 in
theorem when_number (s : ByteArray) (hs : s.size ≤ 4) (w : World) :
    Calls Tryz.prog 101 #[.string s] w fun e w' => e = .returned (.int .i64 (wnum s.data.toList)) ∧ w' = w := by
  go_enter Tryz.func101, Tryz.ntmps101
  go_wp2
  go_loopw [3, 7] (fun n i wr => ∃ k : Nat, k ≤ s.size ∧ i = .int .i64 k ∧ n = .int .i64 (wval (s.data.toList.take k)) ∧ (s.data.toList.take k).all wdig = true ∧ wr = w) (fun n i _ => s.size - (intOf i).toNat)
  case atStart => exact ⟨0, by omega, rfl, rfl, rfl, rfl⟩
  case round =>
    obtain ⟨k, hk, rfl, rfl, hall, rfl⟩ := hrel
    have hl : s.data.toList.length = s.size := data_length s
    obtain ⟨q1, q2⟩ := wval_rng _ hall
    have q3 : wval (s.data.toList.take k) ≤ 9999 := by
      have : (10 : Int) ^ (s.data.toList.take k).length ≤ 10 ^ 4 := by
        have h4 : (s.data.toList.take k).length ≤ 4 := by simp [List.length_take]; omega
        exact_mod_cast Nat.pow_le_pow_right (n := 10) (by omega) h4
      omega
    clear q2
    have HALL := Aside0.mk hall
    clear hall
    by_cases hlt : k < s.size
    · have hg : s.data.toList[k]? = some s[k] := by rw [Array.getElem?_toList, Array.getElem?_eq_getElem (show k < s.data.size from hlt)]; rfl
      have hc := (s[k]).toNat_lt
      have HG := Aside0.mk hg
      clear hg
      go_wp2
      · have l1 : (s[k].toNat : Int) < 48 ∨ 57 < (s[k].toNat : Int) := by assumption
        go_ret
        exact ⟨ret_int (wnum_bad HG.out (by simp [wdig]; omega)).symm, rfl⟩
      · have l1 : 48 ≤ (s[k].toNat : Int) ∧ (s[k].toNat : Int) ≤ 57 := by assumption
        go_roundw
        case rel => exact ⟨k + 1, by omega, by go_num, by rw [List.take_add_one, HG.out]; simp only [Option.toList_some]; rw [wval_snoc], by rw [List.take_add_one, HG.out]; simp [HALL.out, wdig]; omega, trivial⟩
        case measure => simp [intOf]; omega
      · have l1 : (s[k].toNat : Int) < 48 := by assumption
        go_ret
        exact ⟨ret_int (wnum_bad HG.out (by simp [wdig]; omega)).symm, rfl⟩
    · obtain rfl : k = s.size := by omega
      rw [← hl, List.take_length] at HALL q1 q3
      have hE : s.toList.isEmpty = true ∨ s.toList.isEmpty = false := by cases s.toList.isEmpty <;> simp
      rcases hE with hE | hE
      · go_wp2
        go_ret
        exact ⟨ret_int (by unfold wnum; rw [Lib.toList_data] at hE; rw [hE]; rfl), rfl⟩
      · go_wp2
        go_ret
        exact ⟨ret_int (by unfold wnum; rw [Lib.toList_data] at hE; rw [hE, HALL.out, ← hl, List.take_length]; rfl), rfl⟩
set_option maxRecDepth 100000 in
set_option maxHeartbeats 4000000 in
theorem when_Days_low (y m d : Int) (h : y < 1970 ∨ 9999 < y ∨ m < 1 ∨ 12 < m ∨ d < 1) (w : World) :
    Calls Tryz.prog 102 #[.int .i64 y, .int .i64 m, .int .i64 d] w fun e w' => e = .returned (.tuple #[.int .i64 0, .int .i64 110]) ∧ Below w.heap.size w w' := by
  by_cases h1 : y < 1970
  · go_enter Tryz.func102, Tryz.ntmps102
    go_wp2
    go_ret2
    exact ⟨rfl, Below.refl _ _⟩
  by_cases h2 : 9999 < y
  · go_enter Tryz.func102, Tryz.ntmps102
    go_wp2
    go_ret2
    exact ⟨rfl, Below.refl _ _⟩
  by_cases h3 : m < 1
  · go_enter Tryz.func102, Tryz.ntmps102
    go_wp2
    go_ret2
    exact ⟨rfl, Below.refl _ _⟩
  by_cases h4 : 12 < m
  · go_enter Tryz.func102, Tryz.ntmps102
    go_wp2
    go_ret2
    exact ⟨rfl, Below.refl _ _⟩
  have h5 : d < 1 := by omega
  clear h
  go_enter Tryz.func102, Tryz.ntmps102
  go_wp2
  go_ret2
  exact ⟨rfl, Below.refl _ _⟩
def dayOk (y m d : Int) : Bool := decide (1970 ≤ y) && decide (y ≤ 9999) && decide (1 ≤ m) && decide (m ≤ 12) && decide (1 ≤ d) && decide (d ≤ Cal.mlen y m)
theorem when_Days_all (y m d : Int) (hd2 : d ≤ 2000000) (w : World) :
    Calls Tryz.prog 102 #[.int .i64 y, .int .i64 m, .int .i64 d] w fun e w' => e = .returned (.tuple #[.int .i64 (if dayOk y m d = true then Cal.bef y + Cal.cum y m.toNat + d - 1 else 0), .int .i64 (if dayOk y m d = true then 0 else 110)]) ∧ Below w.heap.size w w' := by
  by_cases h : y < 1970 ∨ 9999 < y ∨ m < 1 ∨ 12 < m ∨ d < 1
  · have e : dayOk y m d = false := by
      unfold dayOk
      rcases h with h | h | h | h | h
      · simp [show ¬ 1970 ≤ y by omega]
      · simp [show ¬ y ≤ 9999 by omega]
      · simp [show ¬ 1 ≤ m by omega]
      · simp [show ¬ m ≤ 12 by omega]
      · simp [show ¬ 1 ≤ d by omega]
    rw [e]
    exact when_Days_low y m d h w
  · obtain ⟨k, rfl⟩ : ∃ k : Nat, m = k := ⟨m.toNat, by omega⟩
    by_cases h6 : Cal.mlen y k < d
    · have e : dayOk y k d = false := by unfold dayOk; simp [show ¬ d ≤ Cal.mlen y k by omega]
      rw [e]
      exact when_Days_over y d k (by omega) (by omega) (by omega) (by omega) (by omega) hd2 h6 w
    · have e : dayOk y k d = true := by unfold dayOk; simp; omega
      rw [e]
      exact when_Days_ok y d k (by omega) (by omega) (by omega) (by omega) (by omega) (by omega) w
end Go.Proofs.YtfbmjonhohebiaaGreatDoor
end
section
set_option linter.unusedVariables false
set_option linter.unusedSimpArgs false
namespace Go.Proofs.YtfbmjonhohebiaaGreatDoor
open Go.RowKit Go.Proofs.YtfbmjonhohebiaaGreatDoorW.PrintWords Go.Proofs.YtfbmjonhohebiaaGreatDoorW.PrintLast Go.Proofs.YtfbmjonhohebiaaGreatDoorW.PrintMore PRecurExpands
def cutL (l : List UInt8) (a b : Nat) : List UInt8 := (l.drop a).take (b - a)
def pY (l : List UInt8) : Int := wnum (cutL l 0 4)
def pM (l : List UInt8) : Int := wnum (cutL l 4 6)
def pD (l : List UInt8) : Int := wnum (cutL l 6 8)
def ph (l : List UInt8) : Int := wnum (cutL l 9 11)
def pm (l : List UInt8) : Int := wnum (cutL l 11 13)
def ps (l : List UInt8) : Int := wnum (cutL l 13 15)
def pOk (l : List UInt8) : Bool := l.length == 16 && l[8]? == some 84 && l[15]? == some 90 && dayOk (pY l) (pM l) (pD l) && decide (0 ≤ ph l) && decide (ph l ≤ 23) && decide (0 ≤ pm l) && decide (pm l ≤ 59) && decide (0 ≤ ps l) && decide (ps l ≤ 59)
def pT (l : List UInt8) : Int := (Cal.bef (pY l) + Cal.cum (pY l) (pM l).toNat + pD l - 1) * 86400 + ph l * 3600 + pm l * 60 + ps l
theorem num_at (s : ByteArray) (a b : Nat) (hab : b - a ≤ 4) (hb : b ≤ s.size) (w : World) : Calls Tryz.prog 101 #[.string (s.extract a b)] w fun e w' => e = .returned (.int .i64 (wnum (cutL s.data.toList a b))) ∧ w' = w := by
  have h := when_number (s.extract a b) (by simp [ByteArray.size_extract]; omega) w
  have e : (s.extract a b).data.toList = cutL s.data.toList a b := by
    rw [ByteArray.data_extract, Array.toList_extract]
    simp [cutL, List.extract]
  rw [e] at h
  exact h
theorem wnum_rng (l : List UInt8) (h : l.length ≤ 4) : -1 ≤ wnum l ∧ wnum l ≤ 9999 := by
  unfold wnum
  by_cases ha : l.all wdig = true
  · rw [ha]
    obtain ⟨q1, q2⟩ := wval_rng _ ha
    have : (10 : Int) ^ l.length ≤ 10 ^ 4 := by exact_mod_cast Nat.pow_le_pow_right (n := 10) (by omega) h
    split <;> omega
  · have : l.all wdig = false := by simpa using ha
    rw [this]; simp
theorem u8_of {c : UInt8} {n : Nat} [h0 : OfNat UInt8 n] (h : (c.toNat : Int) = n) (hn : (OfNat.ofNat n : UInt8).toNat = n := by decide) : c = OfNat.ofNat n := by
  apply UInt8.toNat_inj.mp
  rw [hn]
  omega
theorem day_rng {y m d : Int} (h : dayOk y m d = true) : 0 ≤ Cal.bef y + Cal.cum y m.toNat + d - 1 ∧ Cal.bef y + Cal.cum y m.toNat + d - 1 ≤ 2932896 := by
  unfold dayOk at h
  simp at h
  obtain ⟨⟨⟨⟨⟨h1, h2⟩, h3⟩, h4⟩, h5⟩, h6⟩ := h
  obtain ⟨k, rfl⟩ : ∃ k : Nat, m = k := ⟨m.toNat, by omega⟩
  have b1 := Cal.bef_mono h1
  rw [Cal.bef_1970] at b1
  have b2 := Cal.cum_bd y k h3 (by omega)
  have b3 := Cal.cum_succ y k h3 h4
  have b4 := Cal.cum_bd y (k + 1) (by omega) (by omega)
  have b5 := Cal.bef_succ y
  have b6 := Cal.bef_mono (show y + 1 ≤ 10000 by omega)
  rw [Cal.bef_10000] at b6
  simp only [Int.toNat_natCast]
  omega
theorem cutL_len (l : List UInt8) (a b : Nat) : (cutL l a b).length ≤ b - a := by simp [cutL, List.length_take]; omega
set_option maxRecDepth 100000 in
set_option maxHeartbeats 8000000 in
theorem when_Parse (s : ByteArray) (w : World) :
    Calls Tryz.prog 75 #[.string s] w fun e w' => e = .returned (.tuple #[.int .i64 (if pOk s.data.toList = true then pT s.data.toList else 0), .int .i64 (if pOk s.data.toList = true then 0 else 110)]) ∧ Below w.heap.size w w' := by
  obtain ⟨ok, hok⟩ : ∃ ok, ok = pOk s.data.toList := ⟨_, rfl⟩
  obtain ⟨T, hT⟩ : ∃ T, T = pT s.data.toList := ⟨_, rfl⟩
  rw [← hok, ← hT]
  obtain ⟨r1, hr1⟩ : ∃ r1 : Int, r1 = if ok = true then T else 0 := ⟨_, rfl⟩
  obtain ⟨r2, hr2⟩ : ∃ r2 : Int, r2 = if ok = true then 0 else 110 := ⟨_, rfl⟩
  rw [← hr1, ← hr2]
  have HO := Aside0.mk hok
  have HT := Aside0.mk hT
  have H1 := Aside0.mk hr1
  have H2 := Aside0.mk hr2
  clear hok hT hr1 hr2
  by_cases h16 : s.size = 16
  · have g8 : s.data.toList[8]? = some (s[8]'(by omega)) := by rw [Array.getElem?_toList, Array.getElem?_eq_getElem (show 8 < s.data.size from by rw [show s.data.size = s.size from rfl]; omega)]; rfl
    have g15 : s.data.toList[15]? = some (s[15]'(by omega)) := by rw [Array.getElem?_toList, Array.getElem?_eq_getElem (show 15 < s.data.size from by rw [show s.data.size = s.size from rfl]; omega)]; rfl
    have hz8 : 8 < s.size := by omega
    have hz15 : 15 < s.size := by omega
    have G := Aside0.mk (And.intro g8 g15)
    clear g8 g15
    have hz : (s.size : Int) = 16 := by omega
    by_cases h8 : (s[8].toNat : Int) = 84
    · by_cases h15 : (s[15].toNat : Int) = 90
      · go_enter Tryz.func75, Tryz.ntmps75
        go_wp2
        go_quiet ((go_at_call 101; exact Calls.quiet_of_same (num_at s _ _ (by omega) (by omega) _)))
        go_wp2
        generalize hw1 : w.drewN _ = w1
        have hb1 : Below w.heap.size w w1 := by rw [← hw1]; exact ⟨rfl, rfl, rfl, Nat.le_refl _, fun _ _ => rfl⟩
        clear hw1
        have dl := cutL_len s.data.toList 6 8
        obtain ⟨d1, d2⟩ := wnum_rng (cutL s.data.toList 6 8) (by omega)
        have hdays := when_Days_all (wnum (cutL s.data.toList 0 4)) (wnum (cutL s.data.toList 4 6)) (wnum (cutL s.data.toList 6 8)) (by omega)
        obtain ⟨dv, hdv⟩ : ∃ dv : Int, dv = if dayOk (wnum (cutL s.data.toList 0 4)) (wnum (cutL s.data.toList 4 6)) (wnum (cutL s.data.toList 6 8)) = true then Cal.bef (wnum (cutL s.data.toList 0 4)) + Cal.cum (wnum (cutL s.data.toList 0 4)) (wnum (cutL s.data.toList 4 6)).toNat + (wnum (cutL s.data.toList 6 8)) - 1 else 0 := ⟨_, rfl⟩
        obtain ⟨de, hde⟩ : ∃ de : Int, de = if dayOk (wnum (cutL s.data.toList 0 4)) (wnum (cutL s.data.toList 4 6)) (wnum (cutL s.data.toList 6 8)) = true then 0 else 110 := ⟨_, rfl⟩
        rw [← hdv, ← hde] at hdays
        have HDV := Aside0.mk hdv
        have HDE := Aside0.mk hde
        clear hdv hde
        go_region_with (first
          | (go_at_call 101; refine (num_at s _ _ (by omega) (by omega) _).mono ?_; rintro e w' ⟨rfl, rfl⟩)
          | (go_at_call 102; refine (hdays _).mono ?_; rintro e w2 ⟨rfl, hb2⟩))
        have hb2 : Below w1.heap.size w1 w2 := ((Below.refl _ w1).drew).trans hb2
        have hb3 := hb1.trans (hb2.mono hb1.size)
        have hOK : ok = (dayOk (wnum (cutL s.data.toList 0 4)) (wnum (cutL s.data.toList 4 6)) (wnum (cutL s.data.toList 6 8)) && decide (0 ≤ wnum (cutL s.data.toList 9 11)) && decide (wnum (cutL s.data.toList 9 11) ≤ 23) && decide (0 ≤ wnum (cutL s.data.toList 11 13)) && decide (wnum (cutL s.data.toList 11 13) ≤ 59) && decide (0 ≤ wnum (cutL s.data.toList 13 15)) && decide (wnum (cutL s.data.toList 13 15) ≤ 59)) := by
          rw [HO.out]
          unfold pOk
          rw [G.out.1, G.out.2, data_length, show s[8] = 84 from u8_of h8, show s[15] = 90 from u8_of h15, h16]
          rfl
        have hTT : T = (Cal.bef (wnum (cutL s.data.toList 0 4)) + Cal.cum (wnum (cutL s.data.toList 0 4)) (wnum (cutL s.data.toList 4 6)).toNat + (wnum (cutL s.data.toList 6 8)) - 1) * 86400 + wnum (cutL s.data.toList 9 11) * 3600 + wnum (cutL s.data.toList 11 13) * 60 + wnum (cutL s.data.toList 13 15) := by rw [HT.out]; rfl
        have dl1 := cutL_len s.data.toList 9 11
        have dl2 := cutL_len s.data.toList 11 13
        have dl3 := cutL_len s.data.toList 13 15
        obtain ⟨e1, e2⟩ := wnum_rng (cutL s.data.toList 9 11) (by omega)
        obtain ⟨e3, e4⟩ := wnum_rng (cutL s.data.toList 11 13) (by omega)
        obtain ⟨e5, e6⟩ := wnum_rng (cutL s.data.toList 13 15) (by omega)
        have hde := HDE.out
        have hdv := HDV.out
        clear HDE HDV dl dl1 dl2 dl3
        obtain ⟨dk, hdk⟩ : ∃ dk, dk = dayOk (wnum (cutL s.data.toList 0 4)) (wnum (cutL s.data.toList 4 6)) (wnum (cutL s.data.toList 6 8)) := ⟨_, rfl⟩
        rw [← hdk] at hde hdv hOK
        have hdr : dk = true → 0 ≤ dv ∧ dv ≤ 2932896 := fun h => by rw [hdv, if_pos h]; rw [h] at hdk; exact day_rng hdk.symm
        generalize wnum (cutL s.data.toList 9 11) = n1 at *
        generalize wnum (cutL s.data.toList 11 13) = n2 at *
        generalize wnum (cutL s.data.toList 13 15) = n3 at *
        clear hdk
        cases dk with
        | false =>
          have HOK := Aside0.mk hOK
          clear hdr hdv hOK hTT
          simp at hde
          subst hde
          go_wp2
          go_ret2
          have e : ok = false := by rw [HOK.out]; rfl
          exact ⟨ret2_ii (by rw [H1.out, e]; rfl) (by rw [H2.out, e]; rfl), hb3⟩
        | true =>
          obtain ⟨v1, v2⟩ := hdr rfl
          simp only [if_true] at hde hdv
          rw [← hdv] at hTT
          have HOK := Aside0.mk hOK
          have HTT := Aside0.mk hTT
          clear hdr hdv hOK hTT
          subst hde
          go_wp2
          all_goals go_ret2
          all_goals first
            | (have e : ok = true := (by rw [HOK.out]; simp; omega)
               exact ⟨ret2_ii (by rw [H1.out, e, HTT.out]; rfl) (by rw [H2.out, e]; rfl), hb3⟩)
            | (have e : ok = false := (by rw [HOK.out, Bool.eq_false_iff]; simp; omega)
               exact ⟨ret2_ii (by rw [H1.out, e]; rfl) (by rw [H2.out, e]; rfl), hb3⟩)
      · go_enter Tryz.func75, Tryz.ntmps75
        go_wp2
        go_ret2
        have e : ok = false := by
          rw [HO.out]; unfold pOk
          rw [G.out.2, show (some s[15] == some (90 : UInt8)) = false from beq_eq_false_iff_ne.mpr (fun hc => h15 (by injection hc with hc; rw [hc]; rfl))]
          simp
        exact ⟨ret2_ii (by rw [H1.out, e]; rfl) (by rw [H2.out, e]; rfl), Below.refl _ _⟩
    · go_enter Tryz.func75, Tryz.ntmps75
      go_wp2
      go_ret2
      have e : ok = false := by
        rw [HO.out]; unfold pOk
        rw [G.out.1, show (some s[8] == some (84 : UInt8)) = false from beq_eq_false_iff_ne.mpr (fun hc => h8 (by injection hc with hc; rw [hc]; rfl))]
        simp
      exact ⟨ret2_ii (by rw [H1.out, e]; rfl) (by rw [H2.out, e]; rfl), Below.refl _ _⟩
  · go_enter Tryz.func75, Tryz.ntmps75
    go_wp2
    go_ret2
    have e : ok = false := by rw [HO.out]; unfold pOk; rw [data_length]; simp [h16]
    exact ⟨ret2_ii (by rw [H1.out, e]; rfl) (by rw [H2.out, e]; rfl), Below.refl _ _⟩
end Go.Proofs.YtfbmjonhohebiaaGreatDoor
end
section
set_option linter.unusedVariables false
set_option linter.unusedSimpArgs false
namespace Go.Proofs.YtfbmjonhohebiaaGreatDoor
open Go.RowKit Go.Proofs.YtfbmjonhohebiaaGreatDoorW.PrintWords Go.Proofs.YtfbmjonhohebiaaGreatDoorW.PrintLast Go.Proofs.YtfbmjonhohebiaaGreatDoorW.PrintMore PRecurExpands
set_option maxRecDepth 100000 in
set_option maxHeartbeats 2000000 in
theorem part_UNTIL (X : ByteArray) (p : Nat) (a0 a1 a2 a3 : Int) (v4 v5 v6 : Value) (w : World) (hR : RuleAt w p a0 a1 a2 a3 v4 v5 v6) :
    Calls Tryz.prog 47 #[.pointer (some ⟨p, 0, none⟩), .string ⟨#[85, 78, 84, 73, 76]⟩, .string X] w fun e w' => e = .returned (.bool (pOk X.data.toList)) ∧
      w.grownBy w' (some p) ∧ RuleAt w' p a0 a1 a2 (if pOk X.data.toList = true then pT X.data.toList else 0) v4 v5 v6 := by
  have HR := Aside0.mk hR
  clear hR
  have hp := when_Parse X w
  obtain ⟨ok, hok⟩ : ∃ ok, ok = pOk X.data.toList := ⟨_, rfl⟩
  rw [← hok] at hp ⊢
  clear hok
  cases ok with
  | true =>
    rw [if_pos rfl, if_pos rfl] at hp
    rw [if_pos rfl]
    generalize pT X.data.toList = T at hp ⊢
    go_enter Tryz.func47, Tryz.ntmps47
    go_wp2_with (go_at_call 75; refine hp.mono ?_; rintro e w3 ⟨rfl, hb3⟩; obtain ⟨c0, c1, c2, c3, c4, c5, c6, cf, cz⟩ := (show RuleAt w3 p a0 a1 a2 a3 v4 v5 v6 from blk_below HR.out hb3).all; have cf0 := cf 3; clear cf)
    go_ret
    exact ⟨rfl, grown_trans (grown_of_below hb3 _) (grown_set _ _ _ _), blk_set (blk_below HR.out hb3) 3 _⟩
  | false =>
    rw [if_neg (by decide), if_neg (by decide)] at hp
    rw [if_neg (by decide)]
    go_enter Tryz.func47, Tryz.ntmps47
    go_wp2_with (go_at_call 75; refine hp.mono ?_; rintro e w3 ⟨rfl, hb3⟩; obtain ⟨c0, c1, c2, c3, c4, c5, c6, cf, cz⟩ := (show RuleAt w3 p a0 a1 a2 a3 v4 v5 v6 from blk_below HR.out hb3).all; have cf0 := cf 3; clear cf)
    go_ret
    exact ⟨rfl, grown_trans (grown_of_below hb3 _) (grown_set _ _ _ _), blk_set (blk_below HR.out hb3) 3 _⟩
set_option maxRecDepth 100000 in
set_option maxHeartbeats 2000000 in
theorem part_BYMONTH (X : ByteArray) (hX : X.size < 4294967000) (p : Nat) (a0 a1 a2 a3 : Int) (v4 v5 v6 : Value) (w : World) (hG : Globs w) (hR : RuleAt w p a0 a1 a2 a3 v4 v5 v6) :
    Calls Tryz.prog 47 #[.pointer (some ⟨p, 0, none⟩), .string ⟨#[66, 89, 77, 79, 78, 84, 72]⟩, .string X] w fun e w' => e = .returned (.bool (nlAll ((spl X 44).map (·.data.toList))).isSome) ∧
      w.grownBy w' (some p) ∧ ∃ v, RuleAt w' p a0 a1 a2 a3 v v5 v6 ∧ ∀ xs, nlAll ((spl X 44).map (·.data.toList)) = some xs → w'.ownsRow w.heap.size 3 1 v xs.length ((srtI xs).map (.int .i64)) := by
  have HR := Aside0.mk hR
  clear hR
  have hwk := recur_list X hX w hG
  obtain ⟨o, ho⟩ : ∃ o, o = nlAll ((spl X 44).map (·.data.toList)) := ⟨_, rfl⟩
  rw [← ho] at hwk ⊢
  clear ho
  cases o with
  | none =>
    go_enter Tryz.func47, Tryz.ntmps47
    go_wp2_with (go_at_call 76; refine hwk.mono ?_; rintro e w3 ⟨rfl, hb3⟩; obtain ⟨c0, c1, c2, c3, c4, c5, c6, cf, cz⟩ := (show RuleAt w3 p a0 a1 a2 a3 v4 v5 v6 from blk_below HR.out hb3).all; have cf0 := cf 4; clear cf)
    go_ret
    exact ⟨rfl, grown_trans (grown_of_below hb3 _) (grown_set _ _ _ _), _, blk_set (blk_below HR.out hb3) 4 _, fun xs h => by cases h⟩
  | some xs =>
    go_enter Tryz.func47, Tryz.ntmps47
    go_wp2_with (go_at_call 76; refine hwk.mono ?_; rintro e w3 ⟨⟨v, rfl, hrow⟩, hb3⟩; obtain ⟨A, cv, rfl⟩ := own_slice hrow; have HROW := Aside0.mk hrow; clear hrow; obtain ⟨c0, c1, c2, c3, c4, c5, c6, cf, cz⟩ := (show RuleAt w3 p a0 a1 a2 a3 v4 v5 v6 from blk_below HR.out hb3).all; have cf0 := cf 4; clear cf)
    go_ret
    refine ⟨rfl, grown_trans (grown_of_below hb3 _) (grown_set _ _ _ _), _, blk_set (blk_below HR.out hb3) 4 _, fun ys h => ?_⟩
    injection h with h
    subst h
    refine own_move HROW.out (fun k hk => Below.heap_setCell _ _ _ k (fun e => ?_))
    have h1 := own_base HROW.out k hk
    have h2 := blk_lt HR.out
    simp at e
    omega
set_option maxRecDepth 100000 in
set_option maxHeartbeats 2000000 in
theorem part_BYMONTHDAY (X : ByteArray) (hX : X.size < 4294967000) (p : Nat) (a0 a1 a2 a3 : Int) (v4 v5 v6 : Value) (w : World) (hG : Globs w) (hR : RuleAt w p a0 a1 a2 a3 v4 v5 v6) :
    Calls Tryz.prog 47 #[.pointer (some ⟨p, 0, none⟩), .string ⟨#[66, 89, 77, 79, 78, 84, 72, 68, 65, 89]⟩, .string X] w fun e w' => e = .returned (.bool (nlAll ((spl X 44).map (·.data.toList))).isSome) ∧
      w.grownBy w' (some p) ∧ ∃ v, RuleAt w' p a0 a1 a2 a3 v4 v v6 ∧ ∀ xs, nlAll ((spl X 44).map (·.data.toList)) = some xs → w'.ownsRow w.heap.size 3 1 v xs.length ((srtI xs).map (.int .i64)) := by
  have HR := Aside0.mk hR
  clear hR
  have hwk := recur_list X hX w hG
  obtain ⟨o, ho⟩ : ∃ o, o = nlAll ((spl X 44).map (·.data.toList)) := ⟨_, rfl⟩
  rw [← ho] at hwk ⊢
  clear ho
  cases o with
  | none =>
    go_enter Tryz.func47, Tryz.ntmps47
    go_wp2_with (go_at_call 76; refine hwk.mono ?_; rintro e w3 ⟨rfl, hb3⟩; obtain ⟨c0, c1, c2, c3, c4, c5, c6, cf, cz⟩ := (show RuleAt w3 p a0 a1 a2 a3 v4 v5 v6 from blk_below HR.out hb3).all; have cf0 := cf 5; clear cf)
    go_ret
    exact ⟨rfl, grown_trans (grown_of_below hb3 _) (grown_set _ _ _ _), _, blk_set (blk_below HR.out hb3) 5 _, fun xs h => by cases h⟩
  | some xs =>
    go_enter Tryz.func47, Tryz.ntmps47
    go_wp2_with (go_at_call 76; refine hwk.mono ?_; rintro e w3 ⟨⟨v, rfl, hrow⟩, hb3⟩; obtain ⟨A, cv, rfl⟩ := own_slice hrow; have HROW := Aside0.mk hrow; clear hrow; obtain ⟨c0, c1, c2, c3, c4, c5, c6, cf, cz⟩ := (show RuleAt w3 p a0 a1 a2 a3 v4 v5 v6 from blk_below HR.out hb3).all; have cf0 := cf 5; clear cf)
    go_ret
    refine ⟨rfl, grown_trans (grown_of_below hb3 _) (grown_set _ _ _ _), _, blk_set (blk_below HR.out hb3) 5 _, fun ys h => ?_⟩
    injection h with h
    subst h
    refine own_move HROW.out (fun k hk => Below.heap_setCell _ _ _ k (fun e => ?_))
    have h1 := own_base HROW.out k hk
    have h2 := blk_lt HR.out
    simp at e
    omega
def kFREQ : List UInt8 := [70, 82, 69, 81]
def kINTERVAL : List UInt8 := [73, 78, 84, 69, 82, 86, 65, 76]
def kCOUNT : List UInt8 := [67, 79, 85, 78, 84]
def kUNTIL : List UInt8 := [85, 78, 84, 73, 76]
def kBYMONTH : List UInt8 := [66, 89, 77, 79, 78, 84, 72]
def kBYMONTHDAY : List UInt8 := [66, 89, 77, 79, 78, 84, 72, 68, 65, 89]
def kBYDAY : List UInt8 := [66, 89, 68, 65, 89]
set_option maxRecDepth 100000 in
set_option maxHeartbeats 2000000 in
theorem part_other (N X : ByteArray) (p : Nat) (w : World)
    (h1 : ¬ N.data.toList = kFREQ) (h2 : ¬ N.data.toList = kINTERVAL) (h3 : ¬ N.data.toList = kCOUNT) (h4 : ¬ N.data.toList = kUNTIL) (h5 : ¬ N.data.toList = kBYMONTH) (h6 : ¬ N.data.toList = kBYMONTHDAY) (h7 : ¬ N.data.toList = kBYDAY) :
    Calls Tryz.prog 47 #[.pointer (some ⟨p, 0, none⟩), .string N, .string X] w fun e w' => e = .returned (.bool false) ∧ w' = w := by
  rw [← Lib.toList_data] at h1 h2 h3 h4 h5 h6 h7
  unfold kFREQ at h1
  have g1 := beq_eq_false_iff_ne.mpr h1
  clear h1
  unfold kINTERVAL at h2
  have g2 := beq_eq_false_iff_ne.mpr h2
  clear h2
  unfold kCOUNT at h3
  have g3 := beq_eq_false_iff_ne.mpr h3
  clear h3
  unfold kUNTIL at h4
  have g4 := beq_eq_false_iff_ne.mpr h4
  clear h4
  unfold kBYMONTH at h5
  have g5 := beq_eq_false_iff_ne.mpr h5
  clear h5
  unfold kBYMONTHDAY at h6
  have g6 := beq_eq_false_iff_ne.mpr h6
  clear h6
  unfold kBYDAY at h7
  have g7 := beq_eq_false_iff_ne.mpr h7
  clear h7
  go_enter Tryz.func47, Tryz.ntmps47
  go_wp2
  go_ret
  all_goals exact ⟨rfl, rfl⟩
end Go.Proofs.YtfbmjonhohebiaaGreatDoor
end
section
set_option linter.unusedVariables false
set_option linter.unusedSimpArgs false
namespace Go.Proofs.YtfbmjonhohebiaaGreatDoor
open Go.RowKit Go.Proofs.YtfbmjonhohebiaaGreatDoorW.PrintWords Go.Proofs.YtfbmjonhohebiaaGreatDoorW.PrintLast Go.Proofs.YtfbmjonhohebiaaGreatDoorW.PrintMore PRecurExpands
def seenD : List (List UInt8) → DataW Nat
  | [] => .map []
  | k :: ks => (seenD ks).put (.string k) (.lit (.bool true))
def hasK (k : List UInt8) : List (List UInt8) → Bool
  | [] => false
  | x :: xs => if k = x then true else hasK k xs
def Seen (w : World) (b : Nat) (ks : List (List UInt8)) : Prop := w.ownsMap Tryz.prog 9 (plainElem Tryz.prog 4) b ks.length (seenD ks)
theorem zero_bool (w : World) : (zeroValue 4).run Tryz.prog w = .ok (.bool false) w := by kernel_rfl
theorem isMap_seen : ∀ ks, Go.Maps.IsMap (seenD ks) := by
  intro ks
  induction ks with
  | nil => exact Go.Maps.isMap_empty
  | cons k ks ih => exact ih.put _ _
theorem seen_at (k : List UInt8) : ∀ ks, (seenD ks).atKey (.string k) (.lit (.bool false)) = .lit (.bool (hasK k ks)) := by
  intro ks
  induction ks with
  | nil => rfl
  | cons x xs ih =>
    unfold seenD hasK
    by_cases h : k = x
    · subst h
      rw [if_pos rfl]
      exact Go.Maps.atKey_put_same (isMap_seen xs) (by trivial) _ _
    · rw [if_neg h, Go.Maps.atKey_put_other (fun e => h (by injection e)) _ _]
      exact ih
theorem bool_inv {P : Program} {e : TypeId} (he : P.underlying e = some .bool) {v : Value} {c : Bool} {ps : List MemPlace} (h : plainElem (H := Nat) P e v = some (.lit (.bool c), ps)) : v = .bool c := by
  unfold plainElem at h
  rw [he] at h
  cases v with
  | bool x => simp at h; rw [h.1]
  | _ => simp at h
theorem seen_look {w : World} {b : Nat} {ks : List (List UInt8)} (h : Seen w b ks) (N : ByteArray) (hN : N.size ≤ maxLen) :
    (Instr.lookup 70 (.map (some b)) (.string N) false).run Tryz.prog w = .ok (.bool (hasK N.data.toList ks)) w := by
  obtain ⟨v, ps, hrun, hR⟩ := World.ownsMap.lookup h (Go.Maps.string_keyed Tryz.underlying9) Tryz.underlying70 (z := .bool false) (zero_bool w) (plainElem_bool Tryz.underlying4 false) (Go.WideMaps.keyOf_string_mk Tryz.underlying9 hN)
  rw [seen_at] at hR
  have : v = .bool (hasK N.data.toList ks) := by
    exact bool_inv Tryz.underlying4 hR
  rw [hrun, this]
theorem seen_made (w : World) : Seen (w.alloc (.map #[] 0)) w.heap.size [] := World.ownsMap_made w _ _ _
end Go.Proofs.YtfbmjonhohebiaaGreatDoor
end
section
set_option linter.unusedVariables false
set_option linter.unusedSimpArgs false
namespace Go.Proofs.YtfbmjonhohebiaaGreatDoor
open Go.RowKit Go.Proofs.YtfbmjonhohebiaaGreatDoorW.PrintWords Go.Proofs.YtfbmjonhohebiaaGreatDoorW.PrintLast Go.Proofs.YtfbmjonhohebiaaGreatDoorW.PrintMore PRecurExpands
structure RS where
  a0 : Int
  a1 : Int
  a2 : Int
  a3 : Int
  m : List Int
  d : List Int
  k : List S59
def splL (l : List UInt8) (c : UInt8) : List (List UInt8) := (spl ⟨l.toArray⟩ c).map (·.data.toList)
def partV (n x : List UInt8) (r : RS) : Option RS :=
  if n = kFREQ then (if frOk x 4 = true then some { r with a0 := frUp x r.a0 4 } else none)
  else if n = kINTERVAL then (if numB x = true then some { r with a1 := numV x } else none)
  else if n = kCOUNT then (if (numB x && decide (0 < numV x)) = true then some { r with a2 := numV x } else none)
  else if n = kUNTIL then (if pOk x = true then some { r with a3 := pT x } else none)
  else if n = kBYMONTH then (nlAll (splL x 44)).map (fun l => { r with m := srtI l })
  else if n = kBYMONTHDAY then (nlAll (splL x 44)).map (fun l => { r with d := srtI l })
  else if n = kBYDAY then (wkAll (splL x 44)).map (fun l => { r with k := srt59 l })
  else none
def RuleR (w : World) (p base : Nat) (r : RS) : Prop := ∃ v4 v5 v6, RuleAt w p r.a0 r.a1 r.a2 r.a3 v4 v5 v6 ∧
  w.ownsRow base 3 1 v4 r.m.length (r.m.map (.int .i64)) ∧ w.ownsRow base 3 1 v5 r.d.length (r.d.map (.int .i64)) ∧ w.ownsRow base 59 2 v6 r.k.length (r.k.flatMap enc59)
theorem own_grown {w w1 : World} {base p : Nat} {e : TypeId} {size n : Nat} {v : Value} {xs : List Value} (h : w.ownsRow base e size v n xs) (hg : w.grownBy w1 (some p)) (hp : p < base) : w1.ownsRow base e size v n xs := by
  obtain ⟨h1, h2 | ⟨g, cap, cur, rfl, hb, hh, r⟩⟩ := h
  · exact ⟨h1, .inl h2⟩
  · exact ⟨h1, .inr ⟨g, cap, cur, rfl, hb, (hg.block g (blk_lt hh) (fun e => by injection e with e; omega)).trans hh, r⟩⟩
theorem RuleR.grown {w w1 : World} {p q base : Nat} {r : RS} (h : RuleR w p base r) (hg : w.grownBy w1 (some q)) (hq : q < base) (hne : p ≠ q) : RuleR w1 p base r := by
  obtain ⟨v4, v5, v6, h1, h2, h3, h4⟩ := h
  exact ⟨v4, v5, v6, (hg.block p (blk_lt h1) (fun e => by injection e with e; exact hne e)).trans h1, own_grown h2 hg hq, own_grown h3 hg hq, own_grown h4 hg hq⟩
theorem RuleR.below {w w1 : World} {p base : Nat} {r : RS} (h : RuleR w p base r) (hb : Below w.heap.size w w1) : RuleR w1 p base r := by
  obtain ⟨v4, v5, v6, h1, h2, h3, h4⟩ := h
  exact ⟨v4, v5, v6, blk_below h1 hb, pw_own_below h2 hb, pw_own_below h3 hb, pw_own_below h4 hb⟩
theorem bytes_ext {N : ByteArray} {l : List UInt8} (h : N.data.toList = l) : N = ⟨l.toArray⟩ := by
  cases N with
  | mk d => simp at h; subst h; simp
theorem wk_len {l : List UInt8} {xs : List S59} : ∀ {a : List (List UInt8)} {xs : List S59}, wkAll a = some xs → xs.length = a.length := by
  intro a
  induction a with
  | nil => intro xs h; injection h with h; subst h; rfl
  | cons l a ih =>
    intro xs h
    simp only [wkAll] at h
    cases hx : wkOne l with
    | none => rw [hx] at h; cases h
    | some y =>
      rw [hx] at h
      simp only [Option.map_eq_some_iff] at h
      obtain ⟨ys, h1, rfl⟩ := h
      simp [ih h1]
theorem part_all (N X : ByteArray) (hX : X.size < 4294967000) (p base : Nat) (r : RS) (w : World) (hG : Globs w) (hR : RuleR w p base r) (hp : p < base) (hb : base ≤ w.heap.size) :
    Calls Tryz.prog 47 #[.pointer (some ⟨p, 0, none⟩), .string N, .string X] w fun e w' => e = .returned (.bool (partV N.data.toList X.data.toList r).isSome) ∧
      w.grownBy w' (some p) ∧ ∀ r', partV N.data.toList X.data.toList r = some r' → RuleR w' p base r' := by
  obtain ⟨v4, v5, v6, h1, h2, h3, h4⟩ := hR
  have hsp : splL X.data.toList 44 = (spl X 44).map (·.data.toList) := rfl
  unfold partV
  by_cases e1 : N.data.toList = kFREQ
  · rw [bytes_ext e1, if_pos rfl]
    refine (part_FREQ X p r.a0 r.a1 r.a2 r.a3 v4 v5 v6 w h1).mono ?_
    rintro e w' ⟨rfl, hg, hr⟩
    refine ⟨by split <;> simp_all, hg, fun r' h => ?_⟩
    split at h
    · injection h with h; subst h; exact ⟨v4, v5, v6, hr, own_grown h2 hg hp, own_grown h3 hg hp, own_grown h4 hg hp⟩
    · cases h
  rw [if_neg e1]
  by_cases e2 : N.data.toList = kINTERVAL
  · rw [bytes_ext e2, if_pos rfl]
    refine (part_INTERVAL X (by omega) p r.a0 r.a1 r.a2 r.a3 v4 v5 v6 w hG h1).mono ?_
    rintro e w' ⟨rfl, hg, hr⟩
    refine ⟨by split <;> simp_all, hg, fun r' h => ?_⟩
    split at h
    · injection h with h; subst h; exact ⟨v4, v5, v6, hr, own_grown h2 hg hp, own_grown h3 hg hp, own_grown h4 hg hp⟩
    · cases h
  rw [if_neg e2]
  by_cases e3 : N.data.toList = kCOUNT
  · rw [bytes_ext e3, if_pos rfl]
    refine (part_COUNT X (by omega) p r.a0 r.a1 r.a2 r.a3 v4 v5 v6 w hG h1).mono ?_
    rintro e w' ⟨rfl, hg, hr⟩
    refine ⟨by split <;> simp_all, hg, fun r' h => ?_⟩
    split at h
    · injection h with h; subst h; exact ⟨v4, v5, v6, hr, own_grown h2 hg hp, own_grown h3 hg hp, own_grown h4 hg hp⟩
    · cases h
  rw [if_neg e3]
  by_cases e4 : N.data.toList = kUNTIL
  · rw [bytes_ext e4, if_pos rfl]
    refine (part_UNTIL X p r.a0 r.a1 r.a2 r.a3 v4 v5 v6 w h1).mono ?_
    rintro e w' ⟨rfl, hg, hr⟩
    refine ⟨by split <;> simp_all, hg, fun r' h => ?_⟩
    split at h
    · rename_i hk
      rw [if_pos hk] at hr
      injection h with h; subst h; exact ⟨v4, v5, v6, hr, own_grown h2 hg hp, own_grown h3 hg hp, own_grown h4 hg hp⟩
    · cases h
  rw [if_neg e4]
  by_cases e5 : N.data.toList = kBYMONTH
  · rw [bytes_ext e5, if_pos rfl]
    refine (part_BYMONTH X hX p r.a0 r.a1 r.a2 r.a3 v4 v5 v6 w hG h1).mono ?_
    rintro e w' ⟨rfl, hg, v, hr, hv⟩
    refine ⟨by rw [hsp]; simp, hg, fun r' h => ?_⟩
    rw [hsp] at h
    obtain ⟨l, hl, rfl⟩ := Option.map_eq_some_iff.mp h
    have hw := hv l hl
    exact ⟨v, v5, v6, hr, by rw [show (srtI l).length = l.length from List.length_mergeSort _]; exact own_weaken hw hb, own_grown h3 hg hp, own_grown h4 hg hp⟩
  rw [if_neg e5]
  by_cases e6 : N.data.toList = kBYMONTHDAY
  · rw [bytes_ext e6, if_pos rfl]
    refine (part_BYMONTHDAY X hX p r.a0 r.a1 r.a2 r.a3 v4 v5 v6 w hG h1).mono ?_
    rintro e w' ⟨rfl, hg, v, hr, hv⟩
    refine ⟨by rw [hsp]; simp, hg, fun r' h => ?_⟩
    rw [hsp] at h
    obtain ⟨l, hl, rfl⟩ := Option.map_eq_some_iff.mp h
    have hw := hv l hl
    exact ⟨v4, v, v6, hr, own_grown h2 hg hp, by rw [show (srtI l).length = l.length from List.length_mergeSort _]; exact own_weaken hw hb, own_grown h4 hg hp⟩
  rw [if_neg e6]
  by_cases e7 : N.data.toList = kBYDAY
  · rw [bytes_ext e7, if_pos rfl]
    refine (part_BYDAY sortC X hX p r.a0 r.a1 r.a2 r.a3 v4 v5 v6 w hG h1).mono ?_
    rintro e w' ⟨rfl, hg, v, hr, hv⟩
    refine ⟨by rw [hsp]; simp, hg, fun r' h => ?_⟩
    rw [hsp] at h
    obtain ⟨l, hl, rfl⟩ := Option.map_eq_some_iff.mp h
    have hw := hv l hl
    exact ⟨v4, v5, v, hr, own_grown h2 hg hp, own_grown h3 hg hp, by rw [show (srt59 l).length = l.length from List.length_mergeSort _]; exact own_weaken hw hb⟩
  rw [if_neg e7]
  refine (part_other N X p w e1 e2 e3 e4 e5 e6 e7).mono ?_
  rintro e w' ⟨rfl, rfl⟩
  exact ⟨rfl, grown_of_below (Below.refl _ _) _, fun r' h => by cases h⟩
end Go.Proofs.YtfbmjonhohebiaaGreatDoor
end
