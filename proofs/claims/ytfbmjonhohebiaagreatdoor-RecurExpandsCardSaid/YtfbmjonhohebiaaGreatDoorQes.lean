/- Texts merged: what the law needs, and no more. -/
import Derived.Test.YtfbmjonhohebiaaGreatDoorQeh
import Derived.Test.YtfbmjonhohebiaaGreatDoorQer
import Derived.Laws.ResultCell
import Derived.RangeFuncBox
import Derived.RangeFuncNested
import Derived.RangeFuncBound
import Derived.RangeFuncCalls
import Derived.RangeFuncLeaves
import Derived.Shelf.Abstract
import Derived.OwnWalkIn
import Derived.TacticsInMore
import Derived.LoopNIn
import Derived.LoopIn
section
set_option linter.unusedVariables false
set_option linter.unusedSimpArgs false
namespace Go.Proofs.YtfbmjonhohebiaaGreatDoor
open Go.RowKit Go.Proofs.YtfbmjonhohebiaaGreatDoorW.PrintWords Go.Proofs.YtfbmjonhohebiaaGreatDoorW.PrintLast Go.Proofs.YtfbmjonhohebiaaGreatDoorW.PrintMore PRecurExpands
def readGo : List (List UInt8) → List (List UInt8) → RS → Option RS
  | [], _, r => some r
  | p :: ps, seen, r =>
    if ((Lib.cut p [61]).2.2 && !hasK (Lib.cut p [61]).1 seen) = true then
      match partV (Lib.cut p [61]).1 (Lib.cut p [61]).2.1 r with
      | none => none
      | some r' => readGo ps ((Lib.cut p [61]).1 :: seen) r'
    else none
def rs0 : RS := ⟨0, 1, 0, -1, [], [], []⟩
def readP (l : List UInt8) : Option RS := readGo (splL (upL l) 59) [] rs0
open Classical in
noncomputable def rightB (r : RS) : Bool := decide (RightP r.a0 r.a1 r.a2 r.a3 r.m r.d r.k)
noncomputable def readV (l : List UInt8) : Option RS := match readP l with | none => none | some r => if rightB r = true then some r else none
def nil7 : Value := .agg #[.int .i64 0, .int .i64 0, .int .i64 0, .int .i64 0, .slice none 0 0, .slice none 0 0, .slice none 0 0]
def rdPost (o : Option RS) (n₀ : Nat) (e : Ending) (w' : World) : Prop := match o with
  | none => e = .returned (.tuple #[nil7, .int .i64 3])
  | some r => ∃ v4 v5 v6, e = .returned (.tuple #[.agg #[.int .i64 r.a0, .int .i64 r.a1, .int .i64 r.a2, .int .i64 r.a3, v4, v5, v6], .int .i64 0]) ∧
      w'.ownsRow n₀ 3 1 v4 r.m.length (r.m.map (.int .i64)) ∧ w'.ownsRow n₀ 3 1 v5 r.d.length (r.d.map (.int .i64)) ∧ w'.ownsRow n₀ 59 2 v6 r.k.length (r.k.flatMap enc59)
theorem cut_len1 (l sep : List UInt8) : (Lib.cut l sep).1.length ≤ l.length := by
  unfold Lib.cut
  split
  · simp [List.length_take]; omega
  · simp
theorem cut_len2 (l sep : List UInt8) : (Lib.cut l sep).2.1.length ≤ l.length := by
  unfold Lib.cut
  split <;> simp
theorem res2 {fn : Func} {p u : Tmp} (h : fn.results = #[.cell p 25, .tmp u]) (tmps : Array Value) (w : World) (g : Nat) (a0 a1 a2 a3 : Int) (v4 v5 v6 x : Value) (hp : tmps.getD p undef = .pointer (some ⟨g, 0, none⟩)) (hx : tmps.getD u undef = x) (hg : RuleAt w g a0 a1 a2 a3 v4 v5 v6) :
    (results fn tmps).run Tryz.prog w = .ok (.tuple #[.agg #[.int .i64 a0, .int .i64 a1, .int .i64 a2, .int .i64 a3, v4, v5, v6], x]) w := by
  rw [results_cell_tmp h, hp, hx]
  have e := run_loadVar_row w g _ 25 _ _ _ hg Tryz.underlying25 rfl (by kernel_rfl)
  simp only [asAddr]
  show (Result.andThen (.ok _ w) _) = _
  simp only [Result.andThen]
  rw [e]
  rfl
theorem zeros7 {w : World} {g : Nat} {a0 a1 a2 a3 : Int} {v4 v5 v6 : Value} (h : RuleAt w g a0 a1 a2 a3 v4 v5 v6) (b0 b1 b2 b3 : Int) (u4 u5 u6 : Value) :
    RuleAt (((((((w.setCell ⟨g, 0, none⟩ (.int .i64 b0)).setCell ⟨g, 1, none⟩ (.int .i64 b1)).setCell ⟨g, 2, none⟩ (.int .i64 b2)).setCell ⟨g, 3, none⟩ (.int .i64 b3)).setCell ⟨g, 4, none⟩ u4).setCell ⟨g, 5, none⟩ u5).setCell ⟨g, 6, none⟩ u6) g b0 b1 b2 b3 u4 u5 u6 := by
  have h0 : RuleAt (w.setCell ⟨g, 0, none⟩ (.int .i64 b0)) g b0 a1 a2 a3 v4 v5 v6 := blk_set h 0 _
  generalize w.setCell ⟨g, 0, none⟩ (.int .i64 b0) = w0 at h0 ⊢
  have h1 : RuleAt (w0.setCell ⟨g, 1, none⟩ (.int .i64 b1)) g b0 b1 a2 a3 v4 v5 v6 := blk_set h0 1 _
  generalize w0.setCell ⟨g, 1, none⟩ (.int .i64 b1) = w1 at h1 ⊢
  have h2 : RuleAt (w1.setCell ⟨g, 2, none⟩ (.int .i64 b2)) g b0 b1 b2 a3 v4 v5 v6 := blk_set h1 2 _
  generalize w1.setCell ⟨g, 2, none⟩ (.int .i64 b2) = w2 at h2 ⊢
  have h3 : RuleAt (w2.setCell ⟨g, 3, none⟩ (.int .i64 b3)) g b0 b1 b2 b3 v4 v5 v6 := blk_set h2 3 _
  generalize w2.setCell ⟨g, 3, none⟩ (.int .i64 b3) = w3 at h3 ⊢
  have h4 : RuleAt (w3.setCell ⟨g, 4, none⟩ u4) g b0 b1 b2 b3 u4 v5 v6 := blk_set h3 4 _
  generalize w3.setCell ⟨g, 4, none⟩ u4 = w4 at h4 ⊢
  have h5 : RuleAt (w4.setCell ⟨g, 5, none⟩ u5) g b0 b1 b2 b3 u4 u5 v6 := blk_set h4 5 _
  generalize w4.setCell ⟨g, 5, none⟩ u5 = w5 at h5 ⊢
  exact blk_set h5 6 _
theorem below7 (w : World) {n g : Nat} (hg : n ≤ g) (b0 b1 b2 b3 : Int) (u4 u5 u6 : Value) :
    Below n w (((((((w.setCell ⟨g, 0, none⟩ (.int .i64 b0)).setCell ⟨g, 1, none⟩ (.int .i64 b1)).setCell ⟨g, 2, none⟩ (.int .i64 b2)).setCell ⟨g, 3, none⟩ (.int .i64 b3)).setCell ⟨g, 4, none⟩ u4).setCell ⟨g, 5, none⟩ u5).setCell ⟨g, 6, none⟩ u6) :=
  (((((((Below.refl n w).setCell (p := ⟨g, 0, none⟩) hg _).setCell (p := ⟨g, 1, none⟩) hg _).setCell (p := ⟨g, 2, none⟩) hg _).setCell (p := ⟨g, 3, none⟩) hg _).setCell (p := ⟨g, 4, none⟩) hg _).setCell (p := ⟨g, 5, none⟩) hg _).setCell (p := ⟨g, 6, none⟩) hg _
theorem rg_bad {p : List UInt8} {ps seen : List (List UInt8)} {r : RS} (h : ((Lib.cut p [61]).2.2 && !hasK (Lib.cut p [61]).1 seen) = false) : readGo (p :: ps) seen r = none := by
  unfold readGo
  rw [if_neg (by rw [h]; decide)]
theorem rg_part {p : List UInt8} {ps seen : List (List UInt8)} {r : RS} (h : ((Lib.cut p [61]).2.2 && !hasK (Lib.cut p [61]).1 seen) = true) (hp : partV (Lib.cut p [61]).1 (Lib.cut p [61]).2.1 r = none) : readGo (p :: ps) seen r = none := by
  unfold readGo
  rw [if_pos h, hp]
theorem rg_step {p : List UInt8} {ps seen : List (List UInt8)} {r r' : RS} (h : ((Lib.cut p [61]).2.2 && !hasK (Lib.cut p [61]).1 seen) = true) (hp : partV (Lib.cut p [61]).1 (Lib.cut p [61]).2.1 r = some r') : readGo (p :: ps) seen r = readGo ps ((Lib.cut p [61]).1 :: seen) r' := by
  conv => lhs; unfold readGo
  rw [if_pos h, hp]
theorem own_reads_i {w : World} {base : Nat} {v : Value} {xs : List Int} (h : w.ownsRow base 3 1 v xs.length (xs.map (.int .i64))) : ∃ A c, v = .slice A xs.length c ∧ xs.length ≤ c ∧ Kd.C (Kd.int .i64) w A xs.length xs :=
  Kd.R_reads (d := Kd.int .i64) (e := 3) (base := base) (ok := fun _ => True) (Kd.R_of_own h (fun _ _ => trivial))
theorem flat59_get : ∀ (l : List S59) (t : Nat), (l.flatMap enc59)[t]? = (l[t / 2]?).map (fun x => if t % 2 = 0 then .int .i64 x.f0 else .int .i64 x.f1) := flat_get (fun x : S59 => .int .i64 x.f0) (fun x : S59 => .int .i64 x.f1)
theorem own_reads_k {w : World} {base : Nat} {v : Value} {xs : List S59} (h : w.ownsRow base 59 2 v xs.length (xs.flatMap enc59)) : ∃ A c, v = .slice A xs.length c ∧ xs.length ≤ c ∧ Kd.C k59 w A xs.length xs := by
  obtain ⟨h1, ⟨rfl, h0⟩ | ⟨g, cap, cur, rfl, hb, hh, hc, hm, hs, ht⟩⟩ := h
  · refine ⟨none, 0, by rw [h0], by omega, rfl, by omega, fun hp => by omega⟩
  · refine ⟨_, _, rfl, hc, rfl, by unfold maxLen at hm; omega, fun hp => ⟨_, rfl, fun j p hj => ⟨[.int .i64 p.f0, .int .i64 p.f1], rfl, k59_mk w p, fun i u hu => ?_⟩⟩⟩
    have hjl : j < xs.length := (List.getElem?_eq_some_iff.mp hj).1
    have hi : i < 2 := by
      have := (List.getElem?_eq_some_iff.mp hu).1
      simpa using this
    rw [show k59.sz = 2 from rfl]
    rw [show (⟨g, 0, none⟩ : Addr).add (j * 2 + i) = ⟨g, j * 2 + i, none⟩ from by simp [Addr.add]; omega, blk_cell hh]
    have e : cur[j * 2 + i]? = (xs.flatMap enc59)[j * 2 + i]? := by
      rw [← ht, List.getElem?_take_of_lt (by omega)]
      simp
    rw [e, flat59_get, show (j * 2 + i) / 2 = j by omega, hj]
    match i, hi with
    | 0, _ => simp at hu ⊢; exact hu
    | 1, _ => simp at hu; simp [show (j * 2 + 1) % 2 = 1 by omega]; exact hu
def RSb (r : RS) : Prop := r.m.length ≤ 1000000000 ∧ r.d.length ≤ 1000000000 ∧ r.k.length ≤ 1000000000
theorem nl_len : ∀ {a : List (List UInt8)} {xs : List Int}, nlAll a = some xs → xs.length = a.length := by
  intro a
  induction a with
  | nil => intro xs h; injection h with h; subst h; rfl
  | cons l a ih =>
    intro xs h
    simp only [nlAll] at h
    cases hx : nlOne l with
    | none => rw [hx] at h; cases h
    | some y =>
      rw [hx] at h
      simp only [Option.map_eq_some_iff] at h
      obtain ⟨ys, h1, rfl⟩ := h
      simp [ih h1]
theorem splL_len (l : List UInt8) (c : UInt8) : (splL l c).length ≤ l.length + 1 := by
  unfold splL
  rw [List.length_map, spl_len]
  have := Lib.countB_le ⟨#[c]⟩ (Nat.le_refl 1) (ByteArray.mk l.toArray).size ⟨l.toArray⟩ (Nat.le_refl _)
  have e : (ByteArray.mk l.toArray).size = l.length := by rw [← data_length]
  omega
theorem partV_len {n x : List UInt8} {r r' : RS} (h : partV n x r = some r') (hx : x.length < 999999999) (hr : RSb r) : RSb r' := by
  obtain ⟨r1, r2, r3⟩ := hr
  have hsl := splL_len x 44
  unfold partV at h
  split at h
  · split at h
    · injection h with h; subst h; exact ⟨r1, r2, r3⟩
    · cases h
  split at h
  · split at h
    · injection h with h; subst h; exact ⟨r1, r2, r3⟩
    · cases h
  split at h
  · split at h
    · injection h with h; subst h; exact ⟨r1, r2, r3⟩
    · cases h
  split at h
  · split at h
    · injection h with h; subst h; exact ⟨r1, r2, r3⟩
    · cases h
  split at h
  · obtain ⟨l, hl, rfl⟩ := Option.map_eq_some_iff.mp h
    exact ⟨by show (srtI l).length ≤ _; unfold srtI; rw [List.length_mergeSort, nl_len hl]; omega, r2, r3⟩
  split at h
  · obtain ⟨l, hl, rfl⟩ := Option.map_eq_some_iff.mp h
    exact ⟨r1, by show (srtI l).length ≤ _; unfold srtI; rw [List.length_mergeSort, nl_len hl]; omega, r3⟩
  split at h
  · obtain ⟨l, hl, rfl⟩ := Option.map_eq_some_iff.mp h
    exact ⟨r1, r2, by show (srt59 l).length ≤ _; unfold srt59; rw [List.length_mergeSort, wk_len (l := []) (xs := []) hl]; omega⟩
  · cases h
theorem far7 (w : World) (g : Nat) (b0 b1 b2 b3 : Int) (u4 u5 u6 : Value) (k : Nat) (hk : k ≠ g) :
    (((((((w.setCell ⟨g, 0, none⟩ (.int .i64 b0)).setCell ⟨g, 1, none⟩ (.int .i64 b1)).setCell ⟨g, 2, none⟩ (.int .i64 b2)).setCell ⟨g, 3, none⟩ (.int .i64 b3)).setCell ⟨g, 4, none⟩ u4).setCell ⟨g, 5, none⟩ u5).setCell ⟨g, 6, none⟩ u6).heap[k]? = w.heap[k]? := by
  rw [Below.heap_setCell _ _ _ _ (by simpa using hk), Below.heap_setCell _ _ _ _ (by simpa using hk), Below.heap_setCell _ _ _ _ (by simpa using hk), Below.heap_setCell _ _ _ _ (by simpa using hk), Below.heap_setCell _ _ _ _ (by simpa using hk), Below.heap_setCell _ _ _ _ (by simpa using hk), Below.heap_setCell _ _ _ _ (by simpa using hk)]
theorem own7 {w : World} {g base : Nat} {e : TypeId} {size n : Nat} {v : Value} {xs : List Value} (h : w.ownsRow base e size v n xs) (hg : g < base) (b0 b1 b2 b3 : Int) (u4 u5 u6 : Value) :
    (((((((w.setCell ⟨g, 0, none⟩ (.int .i64 b0)).setCell ⟨g, 1, none⟩ (.int .i64 b1)).setCell ⟨g, 2, none⟩ (.int .i64 b2)).setCell ⟨g, 3, none⟩ (.int .i64 b3)).setCell ⟨g, 4, none⟩ u4).setCell ⟨g, 5, none⟩ u5).setCell ⟨g, 6, none⟩ u6).ownsRow g e size v n xs :=
  own_weaken (own_move h (fun k hk => far7 w g b0 b1 b2 b3 u4 u5 u6 k (by have := own_base h k hk; omega))) (by omega)
structure ReadInv (w wr : World) (seen : List (List UInt8)) (r : RS) : Prop where
  below : Below w.heap.size w wr
  res : RuleAt wr w.heap.size 0 0 0 0 (.slice none 0 0) (.slice none 0 0) (.slice none 0 0)
  rule : RuleR wr (w.heap.size + 1) (w.heap.size + 3) r
  seen : Seen wr (w.heap.size + 2) seen
  size : w.heap.size + 3 ≤ wr.heap.size
theorem seen_below {w w1 : World} {b : Nat} {ks : List (List UInt8)} (h : Seen w b ks) (hb : Below w.heap.size w w1) : Seen w1 b ks := World.ownsMap.kept h (grown_of_below hb none) (by simp)
theorem ReadInv.next {w wr w1 : World} {seen : List (List UInt8)} {r : RS} (h : ReadInv w wr seen r) (hb : Below wr.heap.size wr w1) : ReadInv w w1 seen r :=
  ⟨h.below.trans (hb.mono (by have := h.size; omega)), blk_below h.res hb, h.rule.below hb, seen_below h.seen hb, Nat.le_trans h.size hb.size⟩
theorem read_start {w w2 : World} (hb : Below (((w.alloc (.cells (cells7 0 0 0 0 (.slice none 0 0) (.slice none 0 0) (.slice none 0 0)) 25)).alloc (.cells (cells7 0 1 0 (-1) (.slice none 0 0) (.slice none 0 0) (.slice none 0 0)) 25)).alloc (.map #[] 0)).heap.size (((w.alloc (.cells (cells7 0 0 0 0 (.slice none 0 0) (.slice none 0 0) (.slice none 0 0)) 25)).alloc (.cells (cells7 0 1 0 (-1) (.slice none 0 0) (.slice none 0 0) (.slice none 0 0)) 25)).alloc (.map #[] 0)) w2) : ReadInv w w2 [] rs0 := by
  refine ReadInv.next ⟨?_, ?_, ?_, ?_, ?_⟩ hb
  · exact (((Below.refl w.heap.size w).alloc (Nat.le_refl _) _).alloc (by simp) _).alloc (by simp; omega) _
  · exact blk_alloc (blk_alloc (blk_new w _) _) _
  · refine ⟨_, _, _, ?_, World.ownsRow_nil _ _ _ _, World.ownsRow_nil _ _ _ _, World.ownsRow_nil _ _ _ _⟩
    have h := blk_alloc (blk_new (w.alloc (.cells (cells7 0 0 0 0 (.slice none 0 0) (.slice none 0 0) (.slice none 0 0)) 25)) (.cells (cells7 0 1 0 (-1) (.slice none 0 0) (.slice none 0 0) (.slice none 0 0)) 25)) (.map #[] 0)
    rw [World.size_alloc] at h
    exact h
  · have h := seen_made ((w.alloc (.cells (cells7 0 0 0 0 (.slice none 0 0) (.slice none 0 0) (.slice none 0 0)) 25)).alloc (.cells (cells7 0 1 0 (-1) (.slice none 0 0) (.slice none 0 0) (.slice none 0 0)) 25))
    rw [World.size_alloc, World.size_alloc] at h
    exact h
  · simp
theorem res_part {w wr w5 : World} {seen : List (List UInt8)} {r : RS} {n : Nat} (h : ReadInv w wr seen r) (hg : (wr.drewN n).grownBy w5 (some (w.heap.size + 1))) :
    RuleAt w5 w.heap.size 0 0 0 0 (.slice none 0 0) (.slice none 0 0) (.slice none 0 0) ∧ Below w.heap.size w w5 := by
  have hz := h.size
  refine ⟨(hg.block _ (by show w.heap.size < wr.heap.size; omega) (by simp)).trans h.res, ?_⟩
  exact ((h.below.trans (⟨rfl, rfl, rfl, Nat.le_refl _, fun _ _ => rfl⟩ : Below w.heap.size wr (wr.drewN n))).grown hg (by show w.heap.size ≤ wr.heap.size; omega) (fun k hk => by injection hk with hk; omega))
theorem inv_part {w wr w5 w6 : World} {seen : List (List UInt8)} {r r' : RS} {n : Nat} {k : List UInt8} (h : ReadInv w wr seen r) (hg : (wr.drewN n).grownBy w5 (some (w.heap.size + 1))) (hr : RuleR w5 (w.heap.size + 1) (w.heap.size + 3) r')
    (hs : w6.ownsMap Tryz.prog 9 (plainElem Tryz.prog 4) (w.heap.size + 2) (seen.length + 1) ((seenD seen).put (.string k) (.lit (.bool true)))) (hg6 : w5.grownBy w6 (some (w.heap.size + 2))) : ReadInv w w6 (k :: seen) r' := by
  obtain ⟨h1, h2⟩ := res_part h hg
  have hz := h.size
  have hz5 := hg.size
  have hz5' : wr.heap.size ≤ w5.heap.size := hz5
  have hz6 := hg6.size
  refine ⟨h2.grown hg6 (by omega) (fun k hk => by injection hk with hk; omega), (hg6.block _ (by omega) (by simp)).trans h1, hr.grown hg6 (by omega) (by omega), hs, by omega⟩
set_option maxRecDepth 100000 in
set_option maxHeartbeats 4000000 in
theorem recur_Read (s : ByteArray) (hs : s.size < 999999999) (w : World) (hG : Globs w) :
    Calls Tryz.prog 22 #[.string s] w fun e w' => rdPost (readV s.data.toList) w.heap.size e w' ∧ Below w.heap.size w w' := by
  obtain ⟨o, ho⟩ : ∃ o, o = readV s.data.toList := ⟨_, rfl⟩
  rw [← ho]
  have HO := Aside0.mk ho
  have hG1 := Aside0.mk hG
  clear hG ho
  have hmm := @run_makeMap Tryz.prog
  obtain ⟨U, hU⟩ : ∃ U : ByteArray, U = ⟨(upL s.data.toList).toArray⟩ := ⟨_, rfl⟩
  have hUl : U.data.toList = upL s.data.toList := by rw [hU]
  have hUs : U.size = s.size := by rw [← data_length, hUl]; simp [upL, data_length]
  have hup := recur_upper s (by omega)
  rw [← hU] at hup
  obtain ⟨L, hL⟩ : ∃ L, L = spl U 59 := ⟨_, rfl⟩
  have hlen : Lib.countB U ⟨#[59]⟩ + 1 = L.length := by rw [hL]; exact (spl_len U 59).symm
  have hLs : ∀ x ∈ L, x.size ≤ s.size := by rw [hL, ← hUs]; exact spl_mem U 59
  have hLl : L.length ≤ s.size + 1 := by rw [hL, spl_len, ← hUs]; have := Lib.countB_le ⟨#[59]⟩ (by decide) U.size U (Nat.le_refl _); omega
  have hcut := fun m W => Tryz.strings_Split U ⟨#[59]⟩ m W (by omega)
  rw [show Lib.splitB ⟨#[59]⟩ 0 (Lib.countB U ⟨#[59]⟩) U = L from hL.symm, hlen] at hcut
  have hP : readP s.data.toList = readGo (L.map (·.data.toList)) [] rs0 := by rw [hL]; unfold readP splL; rw [← hUl]
  have HP := Aside0.mk hP
  have HUS := Aside0.mk hUs
  clear hP hL hU hUl hlen hUs
  go_enter Tryz.func22, Tryz.ntmps22
  obtain ⟨m0, hm0⟩ := hG1.out.maxlen
  have hgs := hG1.out.size
  go_wp2_with (first
    | (go_at_call 45; refine (hup _).mono ?_; rintro e w2 ⟨rfl, hb2⟩; have I := Aside0.mk (read_start hb2); clear hb2)
    | (go_at_call 44; refine (hcut m0 _ ((I.out.below.cell (p := ⟨0, 0, none⟩) (by show 0 < _; omega)).trans hm0) (by decide)).mono ?_; rintro e w3 ⟨rfl, rfl⟩))
  have hk0 := blk_new w2 (.cells (L.map Value.string).toArray 9)
  have hz2 := I.out.size
  have I0 := I.out.next ((Below.refl w2.heap.size w2).alloc (Nat.le_refl _) (.cells (L.map Value.string).toArray 9))
  clear I
  go_loopw [17] (fun i wr => ∃ (k : Nat) (seen : List (List UInt8)) (r : RS), k ≤ L.length ∧ i = .int .i64 k ∧ ReadInv w wr seen r ∧ RSb r ∧ seen.length ≤ k ∧ wr.heap[w2.heap.size]? = some (.cells (L.map Value.string).toArray 9) ∧ readGo ((L.drop k).map (·.data.toList)) seen r = readGo (L.map (·.data.toList)) [] rs0) (fun i _ => L.length - (intOf i).toNat)
  case atStart => exact ⟨0, [], rs0, by omega, rfl, I0, by simp [RSb, rs0], by simp, hk0, rfl⟩
  case round =>
    obtain ⟨k, seen, r, hk, rfl, hI, hrs, hsn, hbk, hgo⟩ := hrel
    clear I0 hk0 hup hcut
    by_cases hlt : k < L.length
    · obtain ⟨X, hX⟩ : ∃ X, L[k]? = some X := ⟨L[k], List.getElem?_eq_getElem hlt⟩
      have hXs := hLs X (List.mem_of_getElem? hX)
      have hcell : wr.cell? ⟨w2.heap.size, k, none⟩ = some (.string X) := by rw [blk_cell hbk]; simp [hX]
      have HI := Aside0.mk hI
      have HBK := Aside0.mk hbk
      have hdrop : L.drop k = X :: L.drop (k + 1) := by
        obtain ⟨h1, rfl⟩ := List.getElem?_eq_some_iff.mp hX
        exact List.drop_eq_getElem_cons h1
      rw [hdrop, List.map_cons] at hgo
      obtain ⟨N, hN⟩ : ∃ N : ByteArray, N = ⟨(Lib.cut X.data.toList [61]).1.toArray⟩ := ⟨_, rfl⟩
      obtain ⟨V, hV⟩ : ∃ V : ByteArray, V = ⟨(Lib.cut X.data.toList [61]).2.1.toArray⟩ := ⟨_, rfl⟩
      obtain ⟨ok, hok⟩ : ∃ ok, ok = (Lib.cut X.data.toList [61]).2.2 := ⟨_, rfl⟩
      have hcut := Tryz.strings_Cut X ⟨#[61]⟩ m0 wr (by omega) ((hI.below.cell (p := ⟨0, 0, none⟩) (by show 0 < _; omega)).trans hm0)
      rw [show (ByteArray.mk #[61]).data.toList = [61] from rfl, ← hN, ← hV, ← hok] at hcut
      have hNl : N.data.toList = (Lib.cut X.data.toList [61]).1 := by rw [hN]
      have hVl : V.data.toList = (Lib.cut X.data.toList [61]).2.1 := by rw [hV]
      have hNs : N.size ≤ X.size := by rw [← data_length, hNl, ← data_length]; exact cut_len1 _ _
      have hVs : V.size ≤ X.size := by rw [← data_length, hVl, ← data_length]; exact cut_len2 _ _
      clear hN hV
      have HGO := Aside0.mk hgo
      have HNL := Aside0.mk hNl
      have HVL := Aside0.mk hVl
      have HOKK := Aside0.mk hok
      have hz := HI.out.size
      obtain ⟨hh, hhh⟩ : ∃ hh, hh = hasK N.data.toList seen := ⟨_, rfl⟩
      have HH := Aside0.mk hhh
      have hlook := fun n => seen_look (w := wr.drewN n) (b := w.heap.size + 2) (ks := seen) hI.seen N (by unfold maxLen; omega)
      rw [← hhh] at hlook
      clear hgo hNl hVl hok hI hbk hhh hdrop
      cases ok with
      | false =>
        go_wp2_with (first
          | (go_at_call 46; refine hcut.mono ?_; rintro e w4 ⟨rfl, n, rfl⟩; obtain ⟨c0, c1, c2, c3, c4, c5, c6, cf, cz⟩ := (show RuleAt (wr.drewN n) w.heap.size 0 0 0 0 (.slice none 0 0) (.slice none 0 0) (.slice none 0 0) from HI.out.res).all; have f0 := cf 0; have f1 := cf 1; have f2 := cf 2; have f3 := cf 3; have f4 := cf 4; have f5 := cf 5; have f6 := cf 6; clear cf))
        refine bodyPost_ret (res2 rfl _ _ w.heap.size 0 0 0 0 (.slice none 0 0) (.slice none 0 0) (.slice none 0 0) (.int .i64 3) rfl rfl (zeros7 (w := wr.drewN n) HI.out.res 0 0 0 0 _ _ _)) rfl ⟨?_, ?_⟩
        · have e : o = none := by rw [HO.out]; unfold readV; rw [HP.out, ← HGO.out, rg_bad (by rw [← HOKK.out]; rfl)]
          rw [e]; rfl
        · exact (HI.out.below.trans (⟨rfl, rfl, rfl, Nat.le_refl _, fun _ _ => rfl⟩ : Below w.heap.size wr (wr.drewN n))).trans (below7 (wr.drewN n) (Nat.le_refl _) 0 0 0 0 _ _ _)
      | true =>
        cases hh with
        | true =>
          have hlk := hlook
          go_wp2_with (first
            | (go_at_call 46; refine hcut.mono ?_; rintro e w4 ⟨rfl, n, rfl⟩; have hl2 := hlook n; obtain ⟨c0, c1, c2, c3, c4, c5, c6, cf, cz⟩ := (show RuleAt (wr.drewN n) w.heap.size 0 0 0 0 (.slice none 0 0) (.slice none 0 0) (.slice none 0 0) from HI.out.res).all; have f0 := cf 0; have f1 := cf 1; have f2 := cf 2; have f3 := cf 3; have f4 := cf 4; have f5 := cf 5; have f6 := cf 6; clear cf))
          refine bodyPost_ret (res2 rfl _ _ w.heap.size 0 0 0 0 (.slice none 0 0) (.slice none 0 0) (.slice none 0 0) (.int .i64 3) rfl rfl (zeros7 (w := wr.drewN n) HI.out.res 0 0 0 0 _ _ _)) rfl ⟨?_, ?_⟩
          · have e : o = none := by rw [HO.out]; unfold readV; rw [HP.out, ← HGO.out, rg_bad (by rw [← HOKK.out, ← HNL.out, ← HH.out]; rfl)]
            rw [e]; rfl
          · exact (HI.out.below.trans (⟨rfl, rfl, rfl, Nat.le_refl _, fun _ _ => rfl⟩ : Below w.heap.size wr (wr.drewN n))).trans (below7 (wr.drewN n) (Nat.le_refl _) 0 0 0 0 _ _ _)
        | false =>
          have dn : ∀ n, Below wr.heap.size wr (wr.drewN n) := fun n => ⟨rfl, rfl, rfl, Nat.le_refl _, fun _ _ => rfl⟩
          have hpart := fun n => part_all N V (by omega) (w.heap.size + 1) (w.heap.size + 3) r (wr.drewN n) (hG1.out.below (HI.out.below.trans ((dn n).mono (by omega)))) (HI.out.rule.below (dn n)) (by omega) hz
          have hb1 : ((Lib.cut X.data.toList [61]).2.2 && !hasK (Lib.cut X.data.toList [61]).1 seen) = true := by rw [← HOKK.out, ← HNL.out, ← HH.out]; rfl
          have HB1 := Aside0.mk hb1
          clear hb1
          cases hpv : partV N.data.toList V.data.toList r with
          | none =>
            rw [hpv] at hpart
            have HPV := Aside0.mk hpv
            clear hpv
            go_wp2_with (first
              | (go_at_call 46; refine hcut.mono ?_; rintro e w4 ⟨rfl, n, rfl⟩; have hl2 := hlook n)
              | (go_at_call 47; refine (hpart n).mono ?_; rintro e w5 ⟨rfl, hg5, _⟩; have HR5 := Aside0.mk (res_part HI.out hg5); obtain ⟨c0, c1, c2, c3, c4, c5, c6, cf, cz⟩ := HR5.out.1.all; have f0 := cf 0; have f1 := cf 1; have f2 := cf 2; have f3 := cf 3; have f4 := cf 4; have f5 := cf 5; have f6 := cf 6; clear cf))
            refine bodyPost_ret (res2 rfl _ _ w.heap.size 0 0 0 0 (.slice none 0 0) (.slice none 0 0) (.slice none 0 0) (.int .i64 3) rfl rfl (zeros7 (w := w5) HR5.out.1 0 0 0 0 _ _ _)) rfl ⟨?_, ?_⟩
            · have e : o = none := by rw [HO.out]; unfold readV; rw [HP.out, ← HGO.out, rg_part HB1.out (by rw [← HNL.out, ← HVL.out]; exact HPV.out)]
              rw [e]; rfl
            · exact HR5.out.2.trans (below7 w5 (Nat.le_refl _) 0 0 0 0 _ _ _)
          | some r' =>
            rw [hpv] at hpart
            have HPV := Aside0.mk hpv
            clear hpv
            go_wp2_with (first
              | (go_at_call 46; refine hcut.mono ?_; rintro e w4 ⟨rfl, n, rfl⟩; have hl2 := hlook n)
              | (go_at_call 47; refine (hpart n).mono ?_; rintro e w5 ⟨rfl, hg5, hr5⟩; have HR5 := Aside0.mk (res_part HI.out hg5); have HRR := Aside0.mk (hr5 r' rfl); have HS5 := Aside0.mk (World.ownsMap.kept (w := wr.drewN n) HI.out.seen hg5 (by simp)); clear hr5)
              | (at_mapUpdate; refine wpList_mapUpdate_own _ rfl _ _ _ 70 rfl 9 4 (Go.Maps.string_keyed Tryz.underlying9) Tryz.underlying70 _ (w.heap.size + 2) seen.length (seenD seen) rfl HS5.out (by unfold maxLen; omega) _ _ (.string N.data.toList) rfl rfl (Go.WideMaps.keyOf_string_mk Tryz.underlying9 (by unfold maxLen; omega)) (.lit (.bool true)) [] (plainElem_bool Tryz.underlying4 true) ?_; intro w6 hown6 hgrow6))
            have T := Aside0.mk (inv_part (k := N.data.toList) HI.out hg5 HRR.out hown6 hgrow6)
            have hw2 := blk_lt HBK.out
            have hw5 : wr.heap.size ≤ w5.heap.size := hg5.size
            have hbk6 := (hgrow6.block w2.heap.size (by omega) (by simp; omega)).trans ((hg5.block w2.heap.size (show w2.heap.size < wr.heap.size from hw2) (by simp; omega)).trans HBK.out)
            go_roundw
            case rel => exact ⟨k + 1, N.data.toList :: seen, r', by omega, by go_num, T.out, partV_len HPV.out (by rw [data_length]; omega) hrs, by simp; omega, hbk6, by rw [← HGO.out, rg_step HB1.out (by rw [← HNL.out, ← HVL.out]; exact HPV.out), HNL.out]⟩
            case measure => simp [intOf]; omega
    · obtain rfl : k = L.length := by omega
      rw [List.drop_length] at hgo
      have hP : readP s.data.toList = some r := by rw [HP.out, ← hgo]; rfl
      obtain ⟨v4, v5, v6, hr, h4, h5, h6⟩ := hI.rule
      obtain ⟨A4, c4, rfl, hc4, hC4⟩ := own_reads_i h4
      obtain ⟨A5, c5, rfl, hc5, hC5⟩ := own_reads_i h5
      obtain ⟨A6, c6, rfl, hc6, hC6⟩ := own_reads_k h6
      have hright := recur_Right_c r.a0 r.a1 r.a2 r.a3 A4 A5 A6 c4 c5 c6 r.m r.d r.k (rightB r) (by unfold rightB; simp) wr hC4 hc4 hC5 hc5 hC6 hc6 hrs.1 hrs.2.1 hrs.2.2
      obtain ⟨rb, hrb⟩ : ∃ rb, rb = rightB r := ⟨_, rfl⟩
      rw [← hrb] at hright
      have HP2 := Aside0.mk hP
      have HRB := Aside0.mk hrb
      have HI := Aside0.mk hI
      have H4 := Aside0.mk h4
      have H5 := Aside0.mk h5
      have H6 := Aside0.mk h6
      obtain ⟨d0, d1, d2, d3, d4, d5, d6, df, dz⟩ := hr.all
      have HR := Aside0.mk hr
      clear hgo hP hrb hI h4 h5 h6 hr df hC4 hC5 hC6
      cases rb with
      | true =>
        go_wp2_with (go_at_call 24; refine hright.mono ?_; rintro e w5 ⟨rfl, hb5⟩; have I5 := Aside0.mk (HI.out.next hb5); obtain ⟨c0, c1, c2, c3, c4, c5, c6, cf, cz⟩ := I5.out.res.all; have f0 := cf 0; have f1 := cf 1; have f2 := cf 2; have f3 := cf 3; have f4 := cf 4; have f5 := cf 5; have f6 := cf 6; clear cf; obtain ⟨e0, e1, e2, e3, e4, e5, e6, ef, ez⟩ := (RuleAt.all (w := w5) (blk_below HR.out hb5)); clear ef)
        refine bodyPost_ret (res2 rfl _ _ w.heap.size r.a0 r.a1 r.a2 r.a3 _ _ _ (.int .i64 0) rfl rfl (zeros7 (w := w5) I5.out.res r.a0 r.a1 r.a2 r.a3 _ _ _)) rfl ⟨?_, ?_⟩
        · have e : o = some r := by rw [HO.out]; unfold readV; rw [HP2.out]; simp only; rw [← HRB.out]; rfl
          rw [e]
          exact ⟨_, _, _, rfl, own7 (pw_own_below H4.out hb5) (by omega) _ _ _ _ _ _ _, own7 (pw_own_below H5.out hb5) (by omega) _ _ _ _ _ _ _, own7 (pw_own_below H6.out hb5) (by omega) _ _ _ _ _ _ _⟩
        · exact I5.out.below.trans (below7 w5 (Nat.le_refl _) r.a0 r.a1 r.a2 r.a3 _ _ _)
      | false =>
        go_wp2_with (go_at_call 24; refine hright.mono ?_; rintro e w5 ⟨rfl, hb5⟩; have I5 := Aside0.mk (HI.out.next hb5); obtain ⟨c0, c1, c2, c3, c4, c5, c6, cf, cz⟩ := I5.out.res.all; have f0 := cf 0; have f1 := cf 1; have f2 := cf 2; have f3 := cf 3; have f4 := cf 4; have f5 := cf 5; have f6 := cf 6; clear cf)
        refine bodyPost_ret (res2 rfl _ _ w.heap.size 0 0 0 0 (.slice none 0 0) (.slice none 0 0) (.slice none 0 0) (.int .i64 3) rfl rfl (zeros7 (w := w5) I5.out.res 0 0 0 0 _ _ _)) rfl ⟨?_, ?_⟩
        · have e : o = none := by rw [HO.out]; unfold readV; rw [HP2.out]; simp only; rw [← HRB.out]; rfl
          rw [e]; rfl
        · exact I5.out.below.trans (below7 w5 (Nat.le_refl _) 0 0 0 0 _ _ _)
end Go.Proofs.YtfbmjonhohebiaaGreatDoor
end
section
set_option linter.unusedVariables false
set_option linter.unusedSimpArgs false
namespace Go.Proofs.YtfbmjonhohebiaaGreatDoor
open Go.RowKit Go.Shelf Go.Proofs.YtfbmjonhohebiaaGreatDoorW.PrintWords Go.Proofs.YtfbmjonhohebiaaGreatDoorW.PrintLast Go.Proofs.YtfbmjonhohebiaaGreatDoorW.PrintMore PRecurExpands
attribute [local go_sem] Oper.semAt_some max2_int min2_int max_two min_two max_three min_three max_four min_four
def daysL (hit : Int → Bool) (step lim : Int) : Nat → Int → List Int
  | 0, _ => []
  | n + 1, d => if d ≤ lim then (if hit d then d :: daysL hit step lim n (d + step) else daysL hit step lim n (d + step)) else []
theorem daysL_more (hit : Int → Bool) (step lim : Int) (hs : 1 ≤ step) : ∀ (n m : Nat) (d : Int), (lim + 1 - d).toNat ≤ n → (lim + 1 - d).toNat ≤ m → daysL hit step lim n d = daysL hit step lim m d := by
  intro n
  induction n with
  | zero =>
    intro m d h1 h2
    cases m with
    | zero => rfl
    | succ m => simp only [daysL]; rw [if_neg (by omega)]
  | succ n ih =>
    intro m d h1 h2
    cases m with
    | zero => simp only [daysL]; rw [if_neg (by omega)]
    | succ m =>
      simp only [daysL]
      by_cases h : d ≤ lim
      · rw [if_pos h, if_pos h, ih m (d + step) (by omega) (by omega)]
      · rw [if_neg h, if_neg h]
def daysF (hit : Int → Bool) (step lim d : Int) : List Int := daysL hit step lim (lim + 1 - d).toNat d
theorem daysF_over (hit : Int → Bool) (step lim d : Int) (h : lim < d) : daysF hit step lim d = [] := by
  unfold daysF
  rw [show (lim + 1 - d).toNat = 0 by omega]; rfl
theorem daysF_hit (hit : Int → Bool) (step lim d : Int) (hs : 1 ≤ step) (h : d ≤ lim) (hh : hit d = true) : daysF hit step lim d = d :: daysF hit step lim (d + step) := by
  unfold daysF
  obtain ⟨n, hn⟩ : ∃ n, (lim + 1 - d).toNat = n + 1 := ⟨(lim - d).toNat, by omega⟩
  rw [hn]
  simp only [daysL]
  rw [if_pos h, if_pos hh, daysL_more hit step lim hs n (lim + 1 - (d + step)).toNat (d + step) (by omega) (Nat.le_refl _)]
theorem daysF_miss (hit : Int → Bool) (step lim d : Int) (hs : 1 ≤ step) (h : d ≤ lim) (hh : hit d = false) : daysF hit step lim d = daysF hit step lim (d + step) := by
  unfold daysF
  obtain ⟨n, hn⟩ : ∃ n, (lim + 1 - d).toNat = n + 1 := ⟨(lim - d).toNat, by omega⟩
  rw [hn]
  simp only [daysL]
  rw [if_pos h, if_neg (by rw [hh]; decide), daysL_more hit step lim hs n (lim + 1 - (d + step)).toNat (d + step) (by omega) (Nat.le_refl _)]
noncomputable def hitV (a0 a1 : Int) (l4 l5 : List Int) (l6 : List S59) (first d : Int) : Bool := d == first || matchV a0 a1 l4 l5 l6 first d
noncomputable def daysV (a0 a1 : Int) (l4 l5 : List Int) (l6 : List S59) (first lim : Int) : List Int := daysF (hitV a0 a1 l4 l5 l6 first) (if a0 = 1 then a1 else 1) lim first
theorem abides_below {β : Type} {B : Nat} {J : β → World → Prop} (hJ : AbidesFrom B J) {s : β} {W W' : World} (h : J s W) (hb : Below W.heap.size W W') : J s W' :=
  hJ s W W' none h (grown_of_below hb none) (fun r e => by cases e)
set_option maxRecDepth 100000 in
set_option maxHeartbeats 4000000 in
theorem recur_days1 (n l M Br Bf Bl : Nat) (Kp : World → World → Prop) (hKt : ∀ {A B C : World}, Kp A B → Kp B C → Kp A C) (hKc : ∀ {A B : World}, M ≤ A.heap.size → Below A.heap.size A B → Kp A B) (hKs : ∀ {A B : World}, Kp A B → A.heap.size ≤ B.heap.size) (a0 a1 a2 a3 : Int) (A4 A5 A6 : Option Addr) (c4 c5 c6 : Nat) (l4 l5 : List Int) (l6 : List S59) (first lim : Int) (J Jx : List Int → World → Prop) (hn : 1 ≤ n)
    (hc4 : l4.length ≤ c4) (hc5 : l5.length ≤ c5) (hc6 : l6.length ≤ c6) (hl4 : l4.length ≤ 1000000000) (hl5 : l5.length ≤ 1000000000) (hl6 : l6.length ≤ 1000000000)
    (hg0 : 1 ≤ a0) (hg1 : a0 ≤ 4) (hi0 : 1 ≤ a1) (hi1 : a1 ≤ 1000) (hf0 : 0 ≤ first) (hf1 : first ≤ 2932896) (hm0 : 0 ≤ lim) (hm1 : lim ≤ 2932896)
    (hY : ∀ pre x W, J pre W → pre.length < (daysV a0 a1 l4 l5 l6 first lim).length → YieldAt Fence.wide (n - 1) Tryz.prog l #[.int .i64 x] W fun e W' =>
      (e = .returned (.bool true) ∧ J (pre ++ [x]) W' ∧ Kp W W') ∨ (e = .returned (.bool false) ∧ Jx (pre ++ [x]) W'))
    (W : World) (hn₀ : M ≤ W.heap.size) (hJ : AbidesFrom W.heap.size J)
    (hr4 : ∀ W', Kp W W' → Kd.C (Kd.int .i64) W' A4 l4.length l4) (hr5 : ∀ W', Kp W W' → Kd.C (Kd.int .i64) W' A5 l5.length l5) (hr6 : ∀ W', Kp W W' → Kd.C k59 W' A6 l6.length l6)
    (hR : ∀ W', Kp W W' → W'.heap[Br]? = some (.cells #[.int .i64 a0, .int .i64 a1, .int .i64 a2, .int .i64 a3, .slice A4 l4.length c4, .slice A5 l5.length c5, .slice A6 l6.length c6] 25 (0, 0)))
    (hF : ∀ W', Kp W W' → W'.heap[Bf]? = some (.cells #[.int .i64 first] 2 (0, 0))) (hL : ∀ W', Kp W W' → W'.heap[Bl]? = some (.cells #[.int .i64 lim] 2 (0, 0))) (h0 : J [] W) :
    CallsIn Fence.wide n Tryz.prog 65 #[.func (.yield l) #[] #[], .pointer (some ⟨Br, 0, none⟩), .pointer (some ⟨Bf, 0, none⟩), .pointer (some ⟨Bl, 0, none⟩)] W fun e W' => (∃ v, e = .returned v) ∧
      ((∃ ys, ys = daysV a0 a1 l4 l5 l6 first lim ∧ J ys W') ∨ (∃ pre, pre <+: daysV a0 a1 l4 l5 l6 first lim ∧ Jx pre W')) := by
  have HR4 := Aside0.mk hr4
  have HR5 := Aside0.mk hr5
  have HR6 := Aside0.mk hr6
  have HY := Aside0.mk hY
  have HJ := Aside0.mk hJ
  have HR := Aside0.mk hR
  have HF := Aside0.mk hF
  have HL := Aside0.mk hL
  clear hr4 hr5 hr6 hY hJ hR hF hL
  have hK0 : Kp W W := hKc hn₀ (Below.refl _ _)
  have cR : ∀ j, W.cell? ⟨Br, j, none⟩ = _ := blk_cell (HR.out W hK0)
  have cF := blk_cell (HF.out W hK0) 0
  have cL := blk_cell (HL.out W hK0) 0
  have c0 := cR 0
  have c1 := cR 1
  clear cR
  simp at c0 c1 cF cL
  by_cases g1 : (a0 == 1) = true
  ·
    have hs0 : (1 : Int) ≤ a1 := by omega
    have HA := Aside0.mk (show daysV a0 a1 l4 l5 l6 first lim = daysF (hitV a0 a1 l4 l5 l6 first) a1 lim first by unfold daysV; first | rw [if_pos (by simpa using g1)] | rw [if_neg (by simpa using g1)])
    refine callsIn_of_wp Tryz.func65 rfl trivial ?_ rfl
    simp only [Tryz.ntmps65, List.size_toArray, List.length_cons, List.length_nil, Nat.reduceAdd, Nat.reduceSub, Array.replicate_succ, Array.replicate_zero, List.push_toArray, List.append_toArray, List.nil_append, List.cons_append]
    gi_wp2
    gi_loopw [6] (fun d wr => ∃ (x : Int) (pre : List Int), d = .int .i64 x ∧ first ≤ x ∧ x ≤ 2933896 ∧ Aside0 (pre ++ daysF (hitV a0 a1 l4 l5 l6 first) a1 lim x = daysV a0 a1 l4 l5 l6 first lim) ∧ Aside0 (J pre wr) ∧ Aside0 (Kp W wr))
      (fun d _ => (2933897 - intOf d).toNat)
    case atStart => exact ⟨first, [], rfl, Int.le_refl _, by omega, ⟨by rw [HA.out]; rfl⟩, ⟨h0⟩, ⟨hK0⟩⟩
    case round =>
      obtain ⟨x, pre, rfl, hx0, hx1, HP, HJp, hb⟩ := hrel
      clear h0 c0 c1 cF cL
      have hNR : wr.heap[Br]? = _ := HR.out wr hb.out
      have cR := blk_cell hNR
      have cF := blk_cell (HF.out wr hb.out) 0
      have cL := blk_cell (HL.out wr hb.out) 0
      have c0 := cR 0
      have c1 := cR 1
      have c2 := cR 2
      have c3 := cR 3
      have d4 := cR 4
      have d5 := cR 5
      have d6 := cR 6
      clear cR
      simp at c0 c1 c2 c3 d4 d5 d6 cF cL
      have HN := Aside0.mk hNR
      clear hNR
      have hb' : M ≤ wr.heap.size := Nat.le_trans hn₀ (hKs hb.out)
      by_cases hlim : x ≤ lim
      · by_cases hfirst : (x == first) = true
        · have hp : (pre ++ x :: daysF (hitV a0 a1 l4 l5 l6 first) a1 lim (x + a1)) = daysV a0 a1 l4 l5 l6 first lim := by
            rw [← HP.out, daysF_hit _ _ _ _ hs0 hlim (by unfold hitV; rw [hfirst]; rfl)]
          obtain ⟨fn, tmps, assign, body, hy, hR⟩ := HY.out pre x wr HJp.out (by rw [← hp]; simp)
          have HPP := Aside0.mk hp
          clear hp
          gi_wp2
          refine ⟨trivial, ?_⟩
          gi_wp2
          refine hR.mono ?_
          rintro e W3 (⟨rfl, hJ3, hk3⟩ | ⟨rfl, hJx3⟩)
          · gi_wp2
            go_roundw
            case rel => exact ⟨x + a1, pre ++ [x], rfl, by omega, by omega, ⟨by rw [← HPP.out]; simp⟩, ⟨hJ3⟩, ⟨hKt hb.out hk3⟩⟩
            case measure => simp [intOf]; omega
          · gi_wp2
            refine bodyPost_ret (results_none rfl _ _ _) rfl ?_
            exact ⟨⟨_, rfl⟩, .inr ⟨pre ++ [x], ⟨daysF (hitV a0 a1 l4 l5 l6 first) a1 lim (x + a1), by rw [← HPP.out]; simp⟩, hJx3⟩⟩
        · have hfirst' : (x == first) = false := by simpa using hfirst
          clear hfirst
          by_cases hm : matchV a0 a1 l4 l5 l6 first x = true
          · have hp : (pre ++ x :: daysF (hitV a0 a1 l4 l5 l6 first) a1 lim (x + a1)) = daysV a0 a1 l4 l5 l6 first lim := by
              rw [← HP.out, daysF_hit _ _ _ _ hs0 hlim (by unfold hitV; rw [hfirst', hm]; rfl)]
            have HPP := Aside0.mk hp
            clear hp
            gi_wp2_with (refine ⟨trivial, ?_⟩; gi_at_call 27; refine (callsIn_wide.2 (recur_match a0 a1 a2 a3 A4 A5 A6 c4 c5 c6 l4 l5 l6 first x wr (HR4.out _ hb.out) hc4 (HR5.out _ hb.out) hc5 (HR6.out _ hb.out) hc6 hl4 hl5 hl6 hg0 hg1 hi0 hi1 hf0 hf1 (by omega) (by omega))).mono ?_; rintro e w2 ⟨rfl, hb2⟩; obtain ⟨fn, tmps, assign, body, hy, hR⟩ := HY.out pre x w2 (abides_below HJ.out HJp.out hb2) (by rw [← HPP.out]; simp))
            refine hR.mono ?_
            rintro e W3 (⟨rfl, hJ3, hk3⟩ | ⟨rfl, hJx3⟩)
            · gi_wp2
              go_roundw
              case rel => exact ⟨x + a1, pre ++ [x], rfl, by omega, by omega, ⟨by rw [← HPP.out]; simp⟩, ⟨hJ3⟩, ⟨hKt (hKt hb.out (hKc hb' hb2)) hk3⟩⟩
              case measure => simp [intOf]; omega
            · gi_wp2
              refine bodyPost_ret (results_none rfl _ _ _) rfl ?_
              exact ⟨⟨_, rfl⟩, .inr ⟨pre ++ [x], ⟨daysF (hitV a0 a1 l4 l5 l6 first) a1 lim (x + a1), by rw [← HPP.out]; simp⟩, hJx3⟩⟩
          · have hm' : matchV a0 a1 l4 l5 l6 first x = false := by simpa using hm
            clear hm
            have hp : (pre ++ daysF (hitV a0 a1 l4 l5 l6 first) a1 lim (x + a1)) = daysV a0 a1 l4 l5 l6 first lim := by
              rw [← HP.out, daysF_miss _ _ _ _ hs0 hlim (by unfold hitV; rw [hfirst', hm']; rfl)]
            have HPP := Aside0.mk hp
            clear hp
            gi_wp2_with (refine ⟨trivial, ?_⟩; gi_at_call 27; refine (callsIn_wide.2 (recur_match a0 a1 a2 a3 A4 A5 A6 c4 c5 c6 l4 l5 l6 first x wr (HR4.out _ hb.out) hc4 (HR5.out _ hb.out) hc5 (HR6.out _ hb.out) hc6 hl4 hl5 hl6 hg0 hg1 hi0 hi1 hf0 hf1 (by omega) (by omega))).mono ?_; rintro e w2 ⟨rfl, hb2⟩)
            refine ⟨fun _ h => (by cases h), ?_⟩
            gi_wp2
            go_roundw
            case rel => exact ⟨x + a1, pre, rfl, by omega, by omega, HPP, ⟨abides_below HJ.out HJp.out hb2⟩, ⟨hKt hb.out (hKc hb' hb2)⟩⟩
            case measure => simp [intOf]; omega
      · gi_wp2
        go_end0
        exact ⟨⟨_, rfl⟩, .inl (by have h := HP.out; rw [daysF_over _ _ _ _ (by omega), List.append_nil] at h; rw [← h]; exact HJp.out)⟩
  · have g1 : (a0 == 1) = false := by simpa using g1
    have hs0 : (1 : Int) ≤ (1 : Int) := by omega
    have HA := Aside0.mk (show daysV a0 a1 l4 l5 l6 first lim = daysF (hitV a0 a1 l4 l5 l6 first) (1 : Int) lim first by unfold daysV; first | rw [if_pos (by simpa using g1)] | rw [if_neg (by simpa using g1)])
    refine callsIn_of_wp Tryz.func65 rfl trivial ?_ rfl
    simp only [Tryz.ntmps65, List.size_toArray, List.length_cons, List.length_nil, Nat.reduceAdd, Nat.reduceSub, Array.replicate_succ, Array.replicate_zero, List.push_toArray, List.append_toArray, List.nil_append, List.cons_append]
    gi_wp2
    gi_loopw [6] (fun d wr => ∃ (x : Int) (pre : List Int), d = .int .i64 x ∧ first ≤ x ∧ x ≤ 2933896 ∧ Aside0 (pre ++ daysF (hitV a0 a1 l4 l5 l6 first) (1 : Int) lim x = daysV a0 a1 l4 l5 l6 first lim) ∧ Aside0 (J pre wr) ∧ Aside0 (Kp W wr))
      (fun d _ => (2933897 - intOf d).toNat)
    case atStart => exact ⟨first, [], rfl, Int.le_refl _, by omega, ⟨by rw [HA.out]; rfl⟩, ⟨h0⟩, ⟨hK0⟩⟩
    case round =>
      obtain ⟨x, pre, rfl, hx0, hx1, HP, HJp, hb⟩ := hrel
      clear h0 c0 c1 cF cL
      have hNR : wr.heap[Br]? = _ := HR.out wr hb.out
      have cR := blk_cell hNR
      have cF := blk_cell (HF.out wr hb.out) 0
      have cL := blk_cell (HL.out wr hb.out) 0
      have c0 := cR 0
      have c1 := cR 1
      have c2 := cR 2
      have c3 := cR 3
      have d4 := cR 4
      have d5 := cR 5
      have d6 := cR 6
      clear cR
      simp at c0 c1 c2 c3 d4 d5 d6 cF cL
      have HN := Aside0.mk hNR
      clear hNR
      have hb' : M ≤ wr.heap.size := Nat.le_trans hn₀ (hKs hb.out)
      by_cases hlim : x ≤ lim
      · by_cases hfirst : (x == first) = true
        · have hp : (pre ++ x :: daysF (hitV a0 a1 l4 l5 l6 first) (1 : Int) lim (x + 1)) = daysV a0 a1 l4 l5 l6 first lim := by
            rw [← HP.out, daysF_hit _ _ _ _ hs0 hlim (by unfold hitV; rw [hfirst]; rfl)]
          obtain ⟨fn, tmps, assign, body, hy, hR⟩ := HY.out pre x wr HJp.out (by rw [← hp]; simp)
          have HPP := Aside0.mk hp
          clear hp
          gi_wp2
          refine ⟨trivial, ?_⟩
          gi_wp2
          refine hR.mono ?_
          rintro e W3 (⟨rfl, hJ3, hk3⟩ | ⟨rfl, hJx3⟩)
          · gi_wp2
            go_roundw
            case rel => exact ⟨x + 1, pre ++ [x], rfl, by omega, by omega, ⟨by rw [← HPP.out]; simp⟩, ⟨hJ3⟩, ⟨hKt hb.out hk3⟩⟩
            case measure => simp [intOf]; omega
          · gi_wp2
            refine bodyPost_ret (results_none rfl _ _ _) rfl ?_
            exact ⟨⟨_, rfl⟩, .inr ⟨pre ++ [x], ⟨daysF (hitV a0 a1 l4 l5 l6 first) (1 : Int) lim (x + 1), by rw [← HPP.out]; simp⟩, hJx3⟩⟩
        · have hfirst' : (x == first) = false := by simpa using hfirst
          clear hfirst
          by_cases hm : matchV a0 a1 l4 l5 l6 first x = true
          · have hp : (pre ++ x :: daysF (hitV a0 a1 l4 l5 l6 first) (1 : Int) lim (x + 1)) = daysV a0 a1 l4 l5 l6 first lim := by
              rw [← HP.out, daysF_hit _ _ _ _ hs0 hlim (by unfold hitV; rw [hfirst', hm]; rfl)]
            have HPP := Aside0.mk hp
            clear hp
            gi_wp2_with (refine ⟨trivial, ?_⟩; gi_at_call 27; refine (callsIn_wide.2 (recur_match a0 a1 a2 a3 A4 A5 A6 c4 c5 c6 l4 l5 l6 first x wr (HR4.out _ hb.out) hc4 (HR5.out _ hb.out) hc5 (HR6.out _ hb.out) hc6 hl4 hl5 hl6 hg0 hg1 hi0 hi1 hf0 hf1 (by omega) (by omega))).mono ?_; rintro e w2 ⟨rfl, hb2⟩; obtain ⟨fn, tmps, assign, body, hy, hR⟩ := HY.out pre x w2 (abides_below HJ.out HJp.out hb2) (by rw [← HPP.out]; simp))
            refine hR.mono ?_
            rintro e W3 (⟨rfl, hJ3, hk3⟩ | ⟨rfl, hJx3⟩)
            · gi_wp2
              go_roundw
              case rel => exact ⟨x + 1, pre ++ [x], rfl, by omega, by omega, ⟨by rw [← HPP.out]; simp⟩, ⟨hJ3⟩, ⟨hKt (hKt hb.out (hKc hb' hb2)) hk3⟩⟩
              case measure => simp [intOf]; omega
            · gi_wp2
              refine bodyPost_ret (results_none rfl _ _ _) rfl ?_
              exact ⟨⟨_, rfl⟩, .inr ⟨pre ++ [x], ⟨daysF (hitV a0 a1 l4 l5 l6 first) (1 : Int) lim (x + 1), by rw [← HPP.out]; simp⟩, hJx3⟩⟩
          · have hm' : matchV a0 a1 l4 l5 l6 first x = false := by simpa using hm
            clear hm
            have hp : (pre ++ daysF (hitV a0 a1 l4 l5 l6 first) (1 : Int) lim (x + 1)) = daysV a0 a1 l4 l5 l6 first lim := by
              rw [← HP.out, daysF_miss _ _ _ _ hs0 hlim (by unfold hitV; rw [hfirst', hm']; rfl)]
            have HPP := Aside0.mk hp
            clear hp
            gi_wp2_with (refine ⟨trivial, ?_⟩; gi_at_call 27; refine (callsIn_wide.2 (recur_match a0 a1 a2 a3 A4 A5 A6 c4 c5 c6 l4 l5 l6 first x wr (HR4.out _ hb.out) hc4 (HR5.out _ hb.out) hc5 (HR6.out _ hb.out) hc6 hl4 hl5 hl6 hg0 hg1 hi0 hi1 hf0 hf1 (by omega) (by omega))).mono ?_; rintro e w2 ⟨rfl, hb2⟩)
            refine ⟨fun _ h => (by cases h), ?_⟩
            gi_wp2
            go_roundw
            case rel => exact ⟨x + 1, pre, rfl, by omega, by omega, HPP, ⟨abides_below HJ.out HJp.out hb2⟩, ⟨hKt hb.out (hKc hb' hb2)⟩⟩
            case measure => simp [intOf]; omega
      · gi_wp2
        go_end0
        exact ⟨⟨_, rfl⟩, .inl (by have h := HP.out; rw [daysF_over _ _ _ _ (by omega), List.append_nil] at h; rw [← h]; exact HJp.out)⟩
set_option maxRecDepth 100000 in
set_option maxHeartbeats 4000000 in
theorem recur_days (n : Nat) (a0 a1 a2 a3 : Int) (v4 v5 v6 : Value) (first lim : Int) (w : World) :
    CallsIn Fence.wide n Tryz.prog 30 #[.agg #[.int .i64 a0, .int .i64 a1, .int .i64 a2, .int .i64 a3, v4, v5, v6], .int .i64 first, .int .i64 lim] w fun e w' =>
      e = .returned (.func (.func 65) #[] #[.pointer (some ⟨w.heap.size, 0, none⟩), .pointer (some ⟨w.heap.size + 1, 0, none⟩), .pointer (some ⟨w.heap.size + 1 + 1, 0, none⟩)]) ∧
      w' = ((w.alloc (.cells #[.int .i64 a0, .int .i64 a1, .int .i64 a2, .int .i64 a3, v4, v5, v6] 25)).alloc (.cells #[.int .i64 first] 2)).alloc (.cells #[.int .i64 lim] 2) := by
  refine callsIn_of_wp Tryz.func30 rfl trivial ?_ rfl
  simp only [Tryz.ntmps30, List.size_toArray, List.length_cons, List.length_nil, Nat.reduceAdd, Nat.reduceSub, Array.replicate_succ, Array.replicate_zero, List.push_toArray, List.append_toArray, List.nil_append, List.cons_append]
  gi_wp2
  go_ret
  exact ⟨rfl, rfl⟩
end Go.Proofs.YtfbmjonhohebiaaGreatDoor
end
