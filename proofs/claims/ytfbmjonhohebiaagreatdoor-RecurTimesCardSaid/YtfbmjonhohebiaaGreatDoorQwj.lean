/- Texts merged: what the law needs, and no more. -/
import Derived.Test.YtfbmjonhohebiaaGreatDoorQwi
import Derived.ScopeJumps
import Derived.StillTactics
import Derived.Laws.Pointers
section
set_option linter.unusedVariables false
set_option linter.unusedSimpArgs false
namespace Go.Proofs.YtfbmjonhohebiaaGreatDoor
open Go.RowKit Go.Shelf Go.Proofs.YtfbmjonhohebiaaGreatDoorW.PrintWords Go.Proofs.YtfbmjonhohebiaaGreatDoorW.PrintLast Go.Proofs.YtfbmjonhohebiaaGreatDoorW.PrintMore PRecurExpands
attribute [local go_sem] Oper.semAt_some max2_int min2_int max_two min_two max_three min_three max_four min_four
def tmS (first d : Int) : Int := wrap64 (wrap64 (d * 86400) + first % 86400)
def stopB (c u upt most t cnt len : Int) : Bool := decide (upt ≤ t) || (decide (0 < c) && decide (c < cnt)) || ((u != -1) && decide (u < t)) || len == most
def expGo (first frm upt c u most : Int) : List Int → List Int → Int → List Int
  | [], out, _ => out
  | d :: ds, out, n => if stopB c u upt most (tmS first d) (n + 1) out.length = true then out else expGo first frm upt c u most ds (if frm ≤ tmS first d then out ++ [tmS first d] else out) (n + 1)
structure Keep2 (n₀ : Nat) (A B : World) : Prop where
  below : Below n₀ A B
  boxes : ∀ i, n₀ + 2 ≤ i → i < n₀ + 5 → B.heap[i]? = A.heap[i]?
theorem Keep2.trans {n₀ : Nat} {A B C : World} (h : Keep2 n₀ A B) (k : Keep2 n₀ B C) : Keep2 n₀ A C := ⟨h.below.trans k.below, fun i a b => (k.boxes i a b).trans (h.boxes i a b)⟩
theorem Keep2.of_below {n₀ : Nat} {A B : World} (hs : n₀ + 5 ≤ A.heap.size) (h : Below A.heap.size A B) : Keep2 n₀ A B := ⟨h.mono (by omega), fun i _ b => h.block i (by omega)⟩
theorem Keep2.putObj {n₀ : Nat} {w : World} (hw : n₀ + 5 ≤ w.heap.size) (W : World) (l : Nat) (o o' : Obj) (hl : w.heap.size ≤ l) (h : W.heap[l]? = some o) (hc : o.isCells = false) (hk : o.isWalk = false) : Keep2 n₀ W (W.putObj l o') :=
  ⟨belowK_b (n₀ := n₀) (w := w) (by omega) W l o o' hl h hc hk, fun i _ b => World.putObj_heap_other (by omega)⟩
theorem cells5 {W : World} {b0 b1 b2 b3 b4 : Nat} {x0 x1 x2 x3 x4 x5 x6 y1 y2 y3 y4 : Value} {t0 t1 t2 t3 t4 : TypeId} (h0 : W.heap[b0]? = some (.cells #[x0, x1, x2, x3, x4, x5, x6] t0 (0, 0))) (h1 : W.heap[b1]? = some (.cells #[y1] t1 (0, 0)))
    (h2 : W.heap[b2]? = some (.cells #[y2] t2 (0, 0))) (h3 : W.heap[b3]? = some (.cells #[y3] t3 (0, 0))) (h4 : W.heap[b4]? = some (.cells #[y4] t4 (0, 0))) :
    W.cell? ⟨b0, 0, none⟩ = some x0 ∧ W.cell? ⟨b0, 1, none⟩ = some x1 ∧ W.cell? ⟨b0, 2, none⟩ = some x2 ∧ W.cell? ⟨b0, 3, none⟩ = some x3 ∧ W.cell? ⟨b0, 4, none⟩ = some x4 ∧ W.cell? ⟨b0, 5, none⟩ = some x5 ∧ W.cell? ⟨b0, 6, none⟩ = some x6 ∧
    W.cell? ⟨b1, 0, none⟩ = some y1 ∧ W.cell? ⟨b2, 0, none⟩ = some y2 ∧ W.cell? ⟨b3, 0, none⟩ = some y3 ∧ W.cell? ⟨b4, 0, none⟩ = some y4 :=
  ⟨blk_cell h0 0, blk_cell h0 1, blk_cell h0 2, blk_cell h0 3, blk_cell h0 4, blk_cell h0 5, blk_cell h0 6, blk_cell h1 0, blk_cell h2 0, blk_cell h3 0, blk_cell h4 0⟩
theorem info_i64 : (Tryz.prog.info? 2).map (fun i => (i.zero, i.size, i.bytes)) = some (some (.int .i64 0), 1, 8) := by kernel_rfl
theorem daysL_len (hit : Int → Bool) (step lim : Int) : ∀ (n : Nat) (d : Int), (daysL hit step lim n d).length ≤ n := by
  intro n
  induction n with
  | zero => intro d; simp [daysL]
  | succ n ih =>
    intro d
    have := ih (d + step)
    simp only [daysL]
    split
    · split <;> simp <;> omega
    · simp
theorem daysV_len (a0 a1 : Int) (l4 l5 : List Int) (l6 : List S59) (first lim : Int) (h0 : 0 ≤ first) (h1 : lim ≤ 2932896) (_ : 1 ≤ a1) : (daysV a0 a1 l4 l5 l6 first lim).length ≤ 2932897 := by
  unfold daysV daysF
  refine Nat.le_trans (daysL_len _ _ _ _ _) ?_
  omega
theorem own_slice {W : World} {base : Nat} {e : TypeId} {size n : Nat} {v : Value} {xs : List Value} (h : W.ownsRow base e size v n xs) : ∃ A c, v = .slice A n c := by
  rcases h.2 with ⟨rfl, h0⟩ | ⟨g, cap, cur, rfl, _⟩
  · have hx := h.1
    obtain rfl : n = 0 := by first | exact h0 | omega
    exact ⟨_, _, rfl⟩
  · exact ⟨_, _, rfl⟩
theorem cell_one_at (w : World) (x : Value) (t : TypeId) {b : Nat} (h : b = w.heap.size) : ∀ j u, [x][j]? = some u → (w.alloc (.cells #[x] t)).cell? ((⟨b, 0, none⟩ : Addr).add j) = some u := by
  subst h; exact cell_one_new w x t
theorem set_count {W w2 : World} {B : Nat} {v u0 : Value} {n : Nat} {xs : List Value} (hw : B + 5 ≤ W.heap.size) (hv : Boxed W B 38 v) (hrow : W.ownsRow (B + 5) 2 1 v n xs) (hc : Boxed W (B + 1) 3 u0) (hb : Below B w2 W) (u : Value) :
    Boxed (W.setCell ⟨B + 1, 0, none⟩ u) B 38 v ∧ (W.setCell ⟨B + 1, 0, none⟩ u).ownsRow (B + 5) 2 1 v n xs ∧ Boxed (W.setCell ⟨B + 1, 0, none⟩ u) (B + 1) 3 u ∧ Below B w2 (W.setCell ⟨B + 1, 0, none⟩ u) ∧ Keep2 B W (W.setCell ⟨B + 1, 0, none⟩ u) ∧ KeepsOthers W (W.setCell ⟨B + 1, 0, none⟩ u) := by
  refine ⟨hv.kept (grownBy_setCell' W (B + 1) u) (by simp), own_move hrow (fun k hk => ?_), hc.set u, hb.setCell (p := ⟨B + 1, 0, none⟩) (by simp) u, ⟨(Below.refl B W).setCell (p := ⟨B + 1, 0, none⟩) (by simp) u, fun i h1 h2 => ?_⟩, KeepsOthers.setCell _ _ _⟩
  · have := own_base hrow k hk
    exact Below.heap_setCell W ⟨B + 1, 0, none⟩ u k (by simp; omega)
  · exact Below.heap_setCell W ⟨B + 1, 0, none⟩ u i (by simp; omega)
theorem app_out {W w1 w2 : World} {B : Nat} {v v' u : Value} {n m : Nat} {xs ys : List Value} {tmp : Obj} (hw : B + 5 ≤ W.heap.size) (hv : Boxed W B 38 v) (hrow : W.ownsRow (B + 5) 2 1 v n xs) (hc : Boxed W (B + 1) 3 u) (hb : Below B w2 W)
    (hown' : w1.ownsRow (B + 5) 2 1 v' m ys) (hgrow : (W.alloc tmp).grownBy w1 v.ownBlock) :
    Boxed w1 B 38 v ∧ Boxed (w1.setCell ⟨B, 0, none⟩ v') B 38 v' ∧ (w1.setCell ⟨B, 0, none⟩ v').ownsRow (B + 5) 2 1 v' m ys ∧ Boxed (w1.setCell ⟨B, 0, none⟩ v') (B + 1) 3 u ∧ Below B w2 (w1.setCell ⟨B, 0, none⟩ v') ∧ Keep2 B W (w1.setCell ⟨B, 0, none⟩ v') ∧ KeepsOthers W (w1.setCell ⟨B, 0, none⟩ v') := by
  obtain ⟨h1, h2, _, h4, h5⟩ := hv.appended (n₀ := B) (by decide) (own_weaken hrow (by omega)) (by omega) (Nat.le_refl _) (own_weaken hown' (by omega)) hgrow
  have far : ∀ i, i < B + 5 → i ≠ B → (w1.setCell ⟨B, 0, none⟩ v').heap[i]? = W.heap[i]? := by
    intro i hi hne
    rw [Below.heap_setCell w1 ⟨B, 0, none⟩ v' i (by simpa using hne), hgrow.block i (by simp; omega) (fun e => ?_), Below.heap_alloc W tmp i (by omega)]
    have := own_base hrow i e.symm
    omega
  refine ⟨h1, h2, own_move hown' (fun k hk => ?_), (far (B + 1) (by omega) (by omega)).trans hc, hb.trans h5, ⟨h5, fun i a b => far i b (by omega)⟩, h4⟩
  have := own_base hown' k hk
  exact Below.heap_setCell w1 ⟨B, 0, none⟩ v' k (by simp; omega)
theorem expGo_len (first frm upt c u most : Int) : ∀ (ds out : List Int) (n : Int), (expGo first frm upt c u most ds out n).length ≤ out.length + ds.length := by
  intro ds
  induction ds with
  | nil => intro out n; simp [expGo]
  | cons d ds ih =>
    intro out n
    simp only [expGo]
    split
    · exact Nat.le_add_right _ _
    · refine Nat.le_trans (ih _ _) ?_
      split <;> simp <;> omega
def expL (first frm upt c u most : Int) (pre : List Int) : List Int := expGo first frm upt c u most pre [] 0
def expOn (first frm upt c u most : Int) (pre : List Int) : Prop := ∀ rest, expGo first frm upt c u most (pre ++ rest) [] 0 = expGo first frm upt c u most rest (expL first frm upt c u most pre) pre.length
theorem expL_len (first frm upt c u most : Int) (pre : List Int) : (expL first frm upt c u most pre).length ≤ pre.length := by
  have := expGo_len first frm upt c u most pre [] 0
  simpa [expL] using this
theorem exp_stop {first frm upt c u most : Int} {pre : List Int} {x : Int} (h : expOn first frm upt c u most pre)
    (hs : stopB c u upt most (tmS first x) ((pre.length : Int) + 1) (expL first frm upt c u most pre).length = true) :
    expL first frm upt c u most (pre ++ [x]) = expL first frm upt c u most pre ∧ ∀ rest, expGo first frm upt c u most ((pre ++ [x]) ++ rest) [] 0 = expL first frm upt c u most (pre ++ [x]) := by
  have key : ∀ rest, expGo first frm upt c u most (pre ++ (x :: rest)) [] 0 = expL first frm upt c u most pre := by
    intro rest
    rw [h (x :: rest)]
    simp only [expGo]
    rw [if_pos hs]
  have e1 : expL first frm upt c u most (pre ++ [x]) = expL first frm upt c u most pre := by
    rw [← key []]; rfl
  exact ⟨e1, fun rest => by rw [e1, ← key rest]; simp⟩
theorem exp_go {first frm upt c u most : Int} {pre : List Int} {x : Int} (h : expOn first frm upt c u most pre)
    (hs : stopB c u upt most (tmS first x) ((pre.length : Int) + 1) (expL first frm upt c u most pre).length = false) :
    expL first frm upt c u most (pre ++ [x]) = (if frm ≤ tmS first x then expL first frm upt c u most pre ++ [tmS first x] else expL first frm upt c u most pre) ∧ expOn first frm upt c u most (pre ++ [x]) := by
  have key : ∀ rest, expGo first frm upt c u most (pre ++ (x :: rest)) [] 0 = expGo first frm upt c u most rest (if frm ≤ tmS first x then expL first frm upt c u most pre ++ [tmS first x] else expL first frm upt c u most pre) ((pre.length : Int) + 1) := by
    intro rest
    rw [h (x :: rest)]
    simp only [expGo]
    rw [if_neg (by rw [hs]; decide)]
  have e1 : expL first frm upt c u most (pre ++ [x]) = (if frm ≤ tmS first x then expL first frm upt c u most pre ++ [tmS first x] else expL first frm upt c u most pre) := by
    have := key []
    simp only [expGo] at this
    exact this
  refine ⟨e1, fun rest => ?_⟩
  have := key rest
  rw [List.append_assoc, List.singleton_append, this, e1]
  simp
set_option maxRecDepth 100000 in
set_option maxHeartbeats 8000000 in
theorem recur_Expand_ok (a0 a1 a2 a3 : Int) (A4 A5 A6 : Option Addr) (c4 c5 c6 : Nat) (l4 l5 : List Int) (l6 : List S59) (hrt : RightP a0 a1 a2 a3 l4 l5 l6) (first frm upt most : Int) (w : World)
    (hr4 : Kd.C (Kd.int .i64) w A4 l4.length l4) (hc4 : l4.length ≤ c4) (hr5 : Kd.C (Kd.int .i64) w A5 l5.length l5) (hc5 : l5.length ≤ c5) (hr6 : Kd.C k59 w A6 l6.length l6) (hc6 : l6.length ≤ c6)
    (hl4 : l4.length ≤ 1000000000) (hl5 : l5.length ≤ 1000000000) (hl6 : l6.length ≤ 1000000000)
    (t1 : timeS first = true) (t2 : timeS frm = true) (t3 : timeS upt = true) (hs : ¬ 631152000 < upt - first) (hm : ¬ most < 1) (hn : ¬ 1000 < most) :
    Calls Tryz.prog 16 #[.agg #[.int .i64 a0, .int .i64 a1, .int .i64 a2, .int .i64 a3, .slice A4 l4.length c4, .slice A5 l5.length c5, .slice A6 l6.length c6], .int .i64 first, .int .i64 frm, .int .i64 upt, .int .i64 most] w fun e w' =>
      ∃ v, e = .returned (.tuple #[v, .int .i64 0]) ∧ w'.ownsRow w.heap.size 2 1 v (expGo first frm upt a2 a3 most (daysV a0 a1 l4 l5 l6 (first / 86400) (upt / 86400)) [] 0).length ((expGo first frm upt a2 a3 most (daysV a0 a1 l4 l5 l6 (first / 86400) (upt / 86400)) [] 0).map (.int .i64)) ∧ Below w.heap.size w w' := by
  have HR4 := Aside0.mk hr4
  have HR5 := Aside0.mk hr5
  have HR6 := Aside0.mk hr6
  have HRT := Aside0.mk hrt
  clear hr4 hr5 hr6 hrt
  obtain ⟨q1, q2⟩ := (timeS_iff _).mp t1
  obtain ⟨q3, q4⟩ := (timeS_iff _).mp t3
  obtain ⟨q5, q6⟩ := (timeS_iff _).mp t2
  have hd : decide (631152000 < upt - first) = false := decide_eq_false hs
  have he : decide (most < 1) = false := decide_eq_false hm
  have hg : decide (1000 < most) = false := decide_eq_false hn
  clear hs hm hn
  have HB := Aside0.mk ((((((Below.refl w.heap.size w).alloc (Nat.le_refl _) (.cells #[.int .i64 a0, .int .i64 a1, .int .i64 a2, .int .i64 a3, .slice A4 l4.length c4, .slice A5 l5.length c5, .slice A6 l6.length c6] 25)).alloc (by simp <;> omega) (.cells #[.int .i64 first] 2)).alloc (by simp <;> omega) (.cells #[.int .i64 frm] 2)).alloc (by simp <;> omega) (.cells #[.int .i64 upt] 2)).alloc (by simp <;> omega) (.cells #[.int .i64 most] 3))
  have hz : w.heap.size + 4 < (((((w.alloc (.cells #[.int .i64 a0, .int .i64 a1, .int .i64 a2, .int .i64 a3, .slice A4 l4.length c4, .slice A5 l5.length c5, .slice A6 l6.length c6] 25)).alloc (.cells #[.int .i64 first] 2)).alloc (.cells #[.int .i64 frm] 2)).alloc (.cells #[.int .i64 upt] 2)).alloc (.cells #[.int .i64 most] 3)).heap.size := by simp <;> omega
  have K0 : Aside0 ((((((w.alloc (.cells #[.int .i64 a0, .int .i64 a1, .int .i64 a2, .int .i64 a3, .slice A4 l4.length c4, .slice A5 l5.length c5, .slice A6 l6.length c6] 25)).alloc (.cells #[.int .i64 first] 2)).alloc (.cells #[.int .i64 frm] 2)).alloc (.cells #[.int .i64 upt] 2)).alloc (.cells #[.int .i64 most] 3)).heap[w.heap.size]? = some (.cells #[.int .i64 a0, .int .i64 a1, .int .i64 a2, .int .i64 a3, .slice A4 l4.length c4, .slice A5 l5.length c5, .slice A6 l6.length c6] 25)) := ⟨by have h := blk_alloc (blk_alloc (blk_alloc (blk_alloc (blk_new w (.cells #[.int .i64 a0, .int .i64 a1, .int .i64 a2, .int .i64 a3, .slice A4 l4.length c4, .slice A5 l5.length c5, .slice A6 l6.length c6] 25)) (.cells #[.int .i64 first] 2)) (.cells #[.int .i64 frm] 2)) (.cells #[.int .i64 upt] 2)) (.cells #[.int .i64 most] 3); simpa using h⟩
  have K1 : Aside0 ((((((w.alloc (.cells #[.int .i64 a0, .int .i64 a1, .int .i64 a2, .int .i64 a3, .slice A4 l4.length c4, .slice A5 l5.length c5, .slice A6 l6.length c6] 25)).alloc (.cells #[.int .i64 first] 2)).alloc (.cells #[.int .i64 frm] 2)).alloc (.cells #[.int .i64 upt] 2)).alloc (.cells #[.int .i64 most] 3)).heap[w.heap.size + 1]? = some (.cells #[.int .i64 first] 2)) := ⟨by have h := blk_alloc (blk_alloc (blk_alloc (blk_new (w.alloc (.cells #[.int .i64 a0, .int .i64 a1, .int .i64 a2, .int .i64 a3, .slice A4 l4.length c4, .slice A5 l5.length c5, .slice A6 l6.length c6] 25)) (.cells #[.int .i64 first] 2)) (.cells #[.int .i64 frm] 2)) (.cells #[.int .i64 upt] 2)) (.cells #[.int .i64 most] 3); simpa using h⟩
  have K2 : Aside0 ((((((w.alloc (.cells #[.int .i64 a0, .int .i64 a1, .int .i64 a2, .int .i64 a3, .slice A4 l4.length c4, .slice A5 l5.length c5, .slice A6 l6.length c6] 25)).alloc (.cells #[.int .i64 first] 2)).alloc (.cells #[.int .i64 frm] 2)).alloc (.cells #[.int .i64 upt] 2)).alloc (.cells #[.int .i64 most] 3)).heap[w.heap.size + 1 + 1]? = some (.cells #[.int .i64 frm] 2)) := ⟨by have h := blk_alloc (blk_alloc (blk_new ((w.alloc (.cells #[.int .i64 a0, .int .i64 a1, .int .i64 a2, .int .i64 a3, .slice A4 l4.length c4, .slice A5 l5.length c5, .slice A6 l6.length c6] 25)).alloc (.cells #[.int .i64 first] 2)) (.cells #[.int .i64 frm] 2)) (.cells #[.int .i64 upt] 2)) (.cells #[.int .i64 most] 3); simpa using h⟩
  have K3 : Aside0 ((((((w.alloc (.cells #[.int .i64 a0, .int .i64 a1, .int .i64 a2, .int .i64 a3, .slice A4 l4.length c4, .slice A5 l5.length c5, .slice A6 l6.length c6] 25)).alloc (.cells #[.int .i64 first] 2)).alloc (.cells #[.int .i64 frm] 2)).alloc (.cells #[.int .i64 upt] 2)).alloc (.cells #[.int .i64 most] 3)).heap[w.heap.size + 1 + 1 + 1]? = some (.cells #[.int .i64 upt] 2)) := ⟨by have h := blk_alloc (blk_new (((w.alloc (.cells #[.int .i64 a0, .int .i64 a1, .int .i64 a2, .int .i64 a3, .slice A4 l4.length c4, .slice A5 l5.length c5, .slice A6 l6.length c6] 25)).alloc (.cells #[.int .i64 first] 2)).alloc (.cells #[.int .i64 frm] 2)) (.cells #[.int .i64 upt] 2)) (.cells #[.int .i64 most] 3); simpa using h⟩
  have K4 : Aside0 ((((((w.alloc (.cells #[.int .i64 a0, .int .i64 a1, .int .i64 a2, .int .i64 a3, .slice A4 l4.length c4, .slice A5 l5.length c5, .slice A6 l6.length c6] 25)).alloc (.cells #[.int .i64 first] 2)).alloc (.cells #[.int .i64 frm] 2)).alloc (.cells #[.int .i64 upt] 2)).alloc (.cells #[.int .i64 most] 3)).heap[w.heap.size + 1 + 1 + 1 + 1]? = some (.cells #[.int .i64 most] 3)) := ⟨by have h := blk_new ((((w.alloc (.cells #[.int .i64 a0, .int .i64 a1, .int .i64 a2, .int .i64 a3, .slice A4 l4.length c4, .slice A5 l5.length c5, .slice A6 l6.length c6] 25)).alloc (.cells #[.int .i64 first] 2)).alloc (.cells #[.int .i64 frm] 2)).alloc (.cells #[.int .i64 upt] 2)) (.cells #[.int .i64 most] 3); simpa using h⟩
  refine (callsIn_wide (n := 5)).1 ?_
  refine callsIn_of_wp_marks Tryz.func16 rfl trivial ?_ rfl
  simp only [Tryz.ntmps16, List.size_toArray, List.length_cons, List.length_nil, Nat.reduceAdd, Nat.reduceSub, Array.replicate_succ, Array.replicate_zero, List.push_toArray, List.append_toArray, List.nil_append, List.cons_append]
  gi_wp2
  refine wpIn_wide.2 (wp_scope_straight ((wpIn_wide (n := 5)).1 ?_))
  gi_wp2_with (first
    | (refine ⟨trivial, ?_⟩; gi_at_call 24; ((with_reducible refine (callsIn_wide.2 (recur_Right_c a0 a1 a2 a3 A4 A5 A6 c4 c5 c6 l4 l5 l6 true (by simp [HRT.out]) _ (Kd.C_below HR4.out HB.out) hc4 (Kd.C_below HR5.out HB.out) hc5 (Kd.C_below HR6.out HB.out) hc6 hl4 hl5 hl6)).mono ?_); rintro e w2 ⟨rfl, hb2⟩; have hz : w.heap.size + 4 < w2.heap.size := Nat.lt_of_lt_of_le hz hb2.size; have hz0 : w.heap.size < w2.heap.size := (by omega); have hz1 : w.heap.size + 1 < w2.heap.size := (by omega); have hz2 : w.heap.size + 1 + 1 < w2.heap.size := (by omega); have hz3 : w.heap.size + 1 + 1 + 1 < w2.heap.size := (by omega); have hz4 : w.heap.size + 1 + 1 + 1 + 1 < w2.heap.size := (by omega); have HB' := Aside0.mk (HB.out.trans (hb2.mono HB.out.size)); have L0 := Aside0.mk (blk_below K0.out hb2); have L1 := Aside0.mk (blk_below K1.out hb2); have L2 := Aside0.mk (blk_below K2.out hb2); have L3 := Aside0.mk (blk_below K3.out hb2); have L4 := Aside0.mk (blk_below K4.out hb2); clear K0 K1 K2 K3 K4; have K0 := L0; have K1 := L1; have K2 := L2; have K3 := L3; have K4 := L4; clear L0 L1 L2 L3 L4; (try clear k0 k1 k2 k3 k4 k5 k6 k7 k8 k9 k10); obtain ⟨k0, k1, k2, k3, k4, k5, k6, k7, k8, k9, k10⟩ := cells5 K0.out K1.out K2.out K3.out K4.out; clear HB hb2; have HB := HB'; clear HB'))
    | (refine ⟨trivial, ?_⟩; gi_at_call 29; ((with_reducible refine (callsIn_wide.2 (when_Right_c _ _)).mono ?_); rintro e w2 ⟨rfl, hb2⟩; have hz : w.heap.size + 4 < w2.heap.size := Nat.lt_of_lt_of_le hz hb2.size; have hz0 : w.heap.size < w2.heap.size := (by omega); have hz1 : w.heap.size + 1 < w2.heap.size := (by omega); have hz2 : w.heap.size + 1 + 1 < w2.heap.size := (by omega); have hz3 : w.heap.size + 1 + 1 + 1 < w2.heap.size := (by omega); have hz4 : w.heap.size + 1 + 1 + 1 + 1 < w2.heap.size := (by omega); have HB' := Aside0.mk (HB.out.trans (hb2.mono HB.out.size)); have L0 := Aside0.mk (blk_below K0.out hb2); have L1 := Aside0.mk (blk_below K1.out hb2); have L2 := Aside0.mk (blk_below K2.out hb2); have L3 := Aside0.mk (blk_below K3.out hb2); have L4 := Aside0.mk (blk_below K4.out hb2); clear K0 K1 K2 K3 K4; have K0 := L0; have K1 := L1; have K2 := L2; have K3 := L3; have K4 := L4; clear L0 L1 L2 L3 L4; (try clear k0 k1 k2 k3 k4 k5 k6 k7 k8 k9 k10); obtain ⟨k0, k1, k2, k3, k4, k5, k6, k7, k8, k9, k10⟩ := cells5 K0.out K1.out K2.out K3.out K4.out; clear HB hb2; have HB := HB'; clear HB')))
  refine wpIn_wide.2 (wp_label ((show _ from ?_)))
  gi_wp2_with (refine ⟨trivial, ?_⟩; gi_at_call 30; refine (recur_days _ a0 a1 a2 a3 _ _ _ _ _ _).mono ?_; rintro e w3 ⟨rfl, rfl⟩)
  have hn0 : w.heap.size ≤ w2.heap.size := HB.out.size
  obtain ⟨all, hall⟩ : ∃ l, l = daysV a0 a1 l4 l5 l6 (first / 86400) (upt / 86400) := ⟨_, rfl⟩
  have hN : all.length ≤ 2932897 := by rw [hall]; exact daysV_len _ _ _ _ _ _ _ (by omega) (by omega) HRT.out.i0
  have HALL := Aside0.mk hall
  clear hall
  obtain ⟨i0, hi, hz0', hz1', hz2'⟩ := info_parts info_i64
  obtain ⟨W3, hW3⟩ : ∃ W3 : World, W3 = (((((w2.alloc (.cells #[.slice none 0 0] 38)).alloc (.cells #[.int .i64 0] 3)).alloc (.cells #[.int .i64 a0, .int .i64 a1, .int .i64 a2, .int .i64 a3, .slice A4 l4.length c4, .slice A5 l5.length c5, .slice A6 l6.length c6] 25)).alloc (.cells #[.int .i64 (first / 86400)] 2)).alloc (.cells #[.int .i64 (upt / 86400)] 2)) := ⟨_, rfl⟩
  have bO : Boxed W3 w2.heap.size 38 (.slice none 0 0) := by rw [hW3]; exact ((((Boxed.new w2 38 _).alloc _).alloc _).alloc _).alloc _
  have bC : Boxed W3 (w2.heap.size + 1) 3 (.int .i64 0) := by
    have h := ((Boxed.new (w2.alloc (.cells #[.slice none 0 0] 38)) 3 (.int .i64 0)).alloc (.cells #[.int .i64 a0, .int .i64 a1, .int .i64 a2, .int .i64 a3, .slice A4 l4.length c4, .slice A5 l5.length c5, .slice A6 l6.length c6] 25)).alloc (.cells #[.int .i64 (first / 86400)] 2) |>.alloc (.cells #[.int .i64 (upt / 86400)] 2)
    rw [World.size_alloc] at h; rw [hW3]; exact h
  have sz3 : W3.heap.size = w2.heap.size + 5 := by rw [hW3]; simp
  have hb3 : Below w2.heap.size w2 W3 := by
    rw [hW3]
    exact (((((Below.refl _ w2).alloc (Nat.le_refl _) _).alloc (by simp) _).alloc (by simp <;> omega) _).alloc (by simp <;> omega) _).alloc (by simp <;> omega) _
  have hrw : ∀ {W W' : World}, Below W3.heap.size W3 W → Keep2 w2.heap.size W W' → Below w.heap.size w W' := fun h1 h2 => ((HB.out.trans (hb3.mono hn0)).trans (h1.mono (by omega))).trans (h2.below.mono hn0)
  have f2 : W3.heap[w2.heap.size + 1 + 1]? = some (.cells #[.int .i64 a0, .int .i64 a1, .int .i64 a2, .int .i64 a3, .slice A4 l4.length c4, .slice A5 l5.length c5, .slice A6 l6.length c6] 25 (0, 0)) := by
    have h := blk_alloc (blk_alloc (blk_new ((w2.alloc (.cells #[.slice none 0 0] 38)).alloc (.cells #[.int .i64 0] 3)) (.cells #[.int .i64 a0, .int .i64 a1, .int .i64 a2, .int .i64 a3, .slice A4 l4.length c4, .slice A5 l5.length c5, .slice A6 l6.length c6] 25)) (.cells #[.int .i64 (first / 86400)] 2)) (.cells #[.int .i64 (upt / 86400)] 2)
    rw [hW3]; simpa using h
  have f3 : W3.heap[w2.heap.size + 1 + 1 + 1]? = some (.cells #[.int .i64 (first / 86400)] 2 (0, 0)) := by
    have h := blk_alloc (blk_new (((w2.alloc (.cells #[.slice none 0 0] 38)).alloc (.cells #[.int .i64 0] 3)).alloc (.cells #[.int .i64 a0, .int .i64 a1, .int .i64 a2, .int .i64 a3, .slice A4 l4.length c4, .slice A5 l5.length c5, .slice A6 l6.length c6] 25)) (.cells #[.int .i64 (first / 86400)] 2)) (.cells #[.int .i64 (upt / 86400)] 2)
    rw [hW3]; simpa using h
  have f4 : W3.heap[w2.heap.size + 1 + 1 + 1 + 1]? = some (.cells #[.int .i64 (upt / 86400)] 2 (0, 0)) := by
    have h := blk_new ((((w2.alloc (.cells #[.slice none 0 0] 38)).alloc (.cells #[.int .i64 0] 3)).alloc (.cells #[.int .i64 a0, .int .i64 a1, .int .i64 a2, .int .i64 a3, .slice A4 l4.length c4, .slice A5 l5.length c5, .slice A6 l6.length c6] 25)).alloc (.cells #[.int .i64 (first / 86400)] 2)) (.cells #[.int .i64 (upt / 86400)] 2)
    rw [hW3]; simpa using h
  have hseq : SeqStopsK Fence.wide 4 Tryz.prog 65 #[.pointer (some ⟨w2.heap.size + 1 + 1, 0, none⟩), .pointer (some ⟨w2.heap.size + 1 + 1 + 1, 0, none⟩), .pointer (some ⟨w2.heap.size + 1 + 1 + 1 + 1, 0, none⟩)] (fun x : Int => #[.int .i64 x]) (Keep2 w2.heap.size) (fun ys => ys = all) (fun pre => pre <+: all) all.length W3 := by
    intro l J Jx W hW hJ _ hY h0
    rw [HALL.out] at hY ⊢
    refine recur_days1 4 l (w2.heap.size + 5) _ _ _ (Keep2 w2.heap.size) Keep2.trans (fun hs h => Keep2.of_below hs h) (fun h => h.below.size) a0 a1 a2 a3 A4 A5 A6 c4 c5 c6 l4 l5 l6 (first / 86400) (upt / 86400) J Jx (by omega) hc4 hc5 hc6 hl4 hl5 hl6
      HRT.out.f0 HRT.out.f1 HRT.out.i0 HRT.out.i1 (by omega) (by omega) (by omega) (by omega) hY W (by have := hW.size; omega) hJ
      (fun W' k => Kd.C_below HR4.out (hrw hW k)) (fun W' k => Kd.C_below HR5.out (hrw hW k)) (fun W' k => Kd.C_below HR6.out (hrw hW k))
      (fun W' k => (k.boxes _ (by omega) (by omega)).trans ((hW.block _ (by omega)).trans f2)) (fun W' k => (k.boxes _ (by omega) (by omega)).trans ((hW.block _ (by omega)).trans f3)) (fun W' k => (k.boxes _ (by omega) (by omega)).trans ((hW.block _ (by omega)).trans f4)) h0
  have E1 : expOn first frm upt a2 a3 most [] := fun rest => by simp [expL, expGo]
  have E0 : expL first frm upt a2 a3 most [] = [] := rfl
  rw [← hW3]
  have HW3 := Aside0.mk hW3
  clear hW3
  refine wpIn_rangeFunc_ownG rfl (by omega) (gf := 65) (lb := #[.pointer (some ⟨w2.heap.size + 1 + 1, 0, none⟩), .pointer (some ⟨w2.heap.size + 1 + 1 + 1, 0, none⟩), .pointer (some ⟨w2.heap.size + 1 + 1 + 1 + 1, 0, none⟩)]) rfl trivial (enters_of Tryz.func65 (by kernel_rfl) rfl)
    hseq Keep2.trans (fun W l o o' h1 h2 h3 h4 => Keep2.putObj (w := W3) (by omega) W l o o' h1 h2 h3 h4) (Below.refl _ _) (fun _ => rfl)
    (fun pre W => ((((∃ v, Boxed W w2.heap.size 38 v ∧ W.ownsRow (w2.heap.size + 5) 2 1 v (expL first frm upt a2 a3 most pre).length ((expL first frm upt a2 a3 most pre).map (.int .i64)) ∧ True) ∧ Boxed W (w2.heap.size + 1) 3 (.int .i64 pre.length)) ∧ expOn first frm upt a2 a3 most pre) ∧ (Below w2.heap.size w2 W ∧ w2.heap.size + 5 ≤ W.heap.size)))
    (fun c pre W => (((∃ v, Boxed W w2.heap.size 38 v ∧ W.ownsRow (w2.heap.size + 5) 2 1 v (expL first frm upt a2 a3 most pre).length ((expL first frm upt a2 a3 most pre).map (.int .i64)) ∧ True) ∧ (c = .exit 1 ∧ ∀ rest, expGo first frm upt a2 a3 most (pre ++ rest) [] 0 = expL first frm upt a2 a3 most pre)) ∧ Below w2.heap.size w2 W))
    (OwnFrom.and (OwnFrom.and (OwnFrom.and (Own.from (holdsRow_own (w2.heap.size + 5) w2.heap.size 38 2 1 (fun pre => (expL first frm upt a2 a3 most pre).length) (fun pre => (expL first frm upt a2 a3 most pre).map (.int .i64)) (fun _ _ => True)) _) (Own.from (boxed_own _ _ _) _)) (ownFrom_pure _ _)) (OwnFrom.and (ownFrom_below (Nat.le_refl _) (by omega)) (fun _ _ _ _ hs hg _ => Nat.le_trans hs hg.size)))
    (fun c => OwnFrom.and (OwnFrom.and (Own.from (holdsRow_own (w2.heap.size + 5) w2.heap.size 38 2 1 (fun pre => (expL first frm upt a2 a3 most pre).length) (fun pre => (expL first frm upt a2 a3 most pre).map (.int .i64)) (fun _ _ => True)) _) (ownFrom_pure _ _)) (ownFrom_below (Nat.le_refl _) (by omega)))
    ⟨⟨⟨⟨_, bO, World.ownsRow_nil _ _ _ _, trivial⟩, bC⟩, E1⟩, hb3, by omega⟩
    (fun x => { tmps := #[Value.agg #[Value.int IntKind.i64 a0, Value.int IntKind.i64 a1, Value.int IntKind.i64 a2, Value.int IntKind.i64 a3, Value.slice A4 l4.length c4, Value.slice A5 l5.length c5, Value.slice A6 l6.length c6], Value.int IntKind.i64 first, Value.int IntKind.i64 frm, Value.int IntKind.i64 upt, Value.int IntKind.i64 most, Value.pointer (some { block := w.heap.size, off := 0 }), Value.pointer (some { block := w.heap.size + 1, off := 0 }), Value.pointer (some { block := w.heap.size + 1 + 1, off := 0 }), Value.pointer (some { block := w.heap.size + 1 + 1 + 1, off := 0 }), Value.pointer (some { block := w.heap.size + 1 + 1 + 1 + 1, off := 0 }), Value.slice none 0 0, Value.int IntKind.i64 0, Value.pointer (some { block := w2.heap.size, off := 0 }), Value.pointer (some { block := w2.heap.size + 1, off := 0 }), Value.int IntKind.i64 x, undef, Value.bool false, Value.agg #[Value.int IntKind.i64 a0, Value.int IntKind.i64 a1, Value.int IntKind.i64 a2, Value.int IntKind.i64 a3, Value.slice A4 l4.length c4, Value.slice A5 l5.length c5, Value.slice A6 l6.length c6], Value.bool true, Value.bool false, Value.bool false, Value.int IntKind.i64 first, Value.bool true, Value.bool false, Value.bool false, Value.int IntKind.i64 frm, Value.bool true, Value.bool false, Value.bool false, Value.bool false, Value.int IntKind.i64 upt, Value.bool true, Value.bool false, Value.bool false, Value.bool false, Value.int IntKind.i64 upt, Value.int IntKind.i64 first, Value.int IntKind.i64 (upt - first), Value.bool false, Value.bool false, Value.int IntKind.i64 most, Value.bool false, Value.bool false, Value.bool false, Value.int IntKind.i64 most, Value.bool false, Value.bool false, Value.agg #[Value.int IntKind.i64 a0, Value.int IntKind.i64 a1, Value.int IntKind.i64 a2, Value.int IntKind.i64 a3, Value.slice A4 l4.length c4, Value.slice A5 l5.length c5, Value.slice A6 l6.length c6], Value.int IntKind.i64 first, Value.int IntKind.i64 (first / 86400), Value.int IntKind.i64 upt, Value.int IntKind.i64 (upt / 86400), Value.func (Fn.func 65) #[] #[Value.pointer (some { block := w2.heap.size + 1 + 1, off := 0 }), Value.pointer (some { block := w2.heap.size + 1 + 1 + 1, off := 0 }), Value.pointer (some { block := w2.heap.size + 1 + 1 + 1 + 1, off := 0 })], Value.int IntKind.i64 x, undef, undef, undef, undef, undef, undef, undef, undef, undef, undef, undef, undef, undef, undef, undef, undef, undef, undef, undef, undef, undef, undef, undef, undef, undef, undef, undef, undef, undef, undef, undef, undef, undef, undef, undef, undef, undef, undef, undef, undef, undef, undef, undef, undef, undef, undef, undef, undef], defers := [] }) ?assign ?body ?done ?stop
  case assign =>
    intro l x W K hK
    gi_wp2
    exact hK
  case body =>
    rintro l pre x W ⟨⟨⟨⟨v, hv, hrow, _⟩, hcn⟩, hon⟩, hbl, hW⟩ hlt
    have hc := hv.cell
    have hcf := hv.frozen
    have hcc := hcn.cell
    have hccf := hcn.frozen
    have hEl := expL_len first frm upt a2 a3 most pre
    have HON := Aside0.mk hon
    have HV := Aside0.mk hv
    have HCN := Aside0.mk hcn
    clear hv hcn hon
    have g0 := blk_cell ((hbl.block _ hz0).trans K0.out) 2
    have g1 := blk_cell ((hbl.block _ hz0).trans K0.out) 3
    have g2 := blk_cell ((hbl.block _ hz1).trans K1.out) 0
    have g3 := blk_cell ((hbl.block _ hz2).trans K2.out) 0
    have g4 := blk_cell ((hbl.block _ hz3).trans K3.out) 0
    have g5 := blk_cell ((hbl.block _ hz4).trans K4.out) 0
    simp at g0 g1 g2 g3 g4 g5
    clear k0 k1 k2 k3 k4 k5 k6 k7 k8 k9 k10 f2 f3 f4 hseq hrw E0 bO bC
    obtain ⟨A, cv, rfl⟩ := own_slice hrow
    have S := Aside0.mk (set_count hW HV.out hrow HCN.out hbl (.int .i64 ((pre.length : Int) + 1)))
    clear hrow
    have P2 : decide (0 < a2) = false ∨ (decide (0 < a2) = true ∧ decide (a2 < (pre.length : Int) + 1) = false) ∨ (decide (0 < a2) = true ∧ decide (a2 < (pre.length : Int) + 1) = true) := by
      cases decide (0 < a2) <;> cases decide (a2 < (pre.length : Int) + 1) <;> simp
    have P3 : (a3 != -1) = false ∨ ((a3 != -1) = true ∧ decide (a3 < wrap64 (wrap64 (x * 86400) + first % 86400)) = false) ∨ ((a3 != -1) = true ∧ decide (a3 < wrap64 (wrap64 (x * 86400) + first % 86400)) = true) := by
      cases (a3 != -1) <;> cases decide (a3 < wrap64 (wrap64 (x * 86400) + first % 86400)) <;> simp
    have P4 : (((expL first frm upt a2 a3 most pre).length : Int) == most) = true ∨ (((expL first frm upt a2 a3 most pre).length : Int) == most) = false := by
      cases (((expL first frm upt a2 a3 most pre).length : Int) == most) <;> simp
    by_cases p1 : upt ≤ wrap64 (wrap64 (x * 86400) + first % 86400)
    · clear P2 P3 P4
      have hst : stopB a2 a3 upt most (tmS first x) ((pre.length : Int) + 1) (expL first frm upt a2 a3 most pre).length = true := by unfold stopB tmS; simp [p1]
      obtain ⟨e1, e2⟩ := exp_stop HON.out hst
      have ES := Aside0.mk (And.intro e1 e2)
      clear e1 e2 hst
      gi_wp2
      exact ⟨S.out.2.2.2.2.2.from _, ⟨⟨_, S.out.1, by rw [ES.out.1]; exact S.out.2.1, trivial⟩, rfl, ES.out.2⟩, S.out.2.2.2.1⟩
    · have q1 : decide (upt ≤ wrap64 (wrap64 (x * 86400) + first % 86400)) = false := decide_eq_false p1
      rcases P2 with h2 | ⟨h2, h2'⟩ | ⟨h2, h2'⟩
      ·
        rcases P3 with h3 | ⟨h3, h3'⟩ | ⟨h3, h3'⟩
        · rcases P4 with h4 | h4
          · have hst : stopB a2 a3 upt most (tmS first x) ((pre.length : Int) + 1) (expL first frm upt a2 a3 most pre).length = true := by unfold stopB tmS; simp [q1, h2, h3, h4]
            obtain ⟨e1, e2⟩ := exp_stop HON.out hst
            have ES := Aside0.mk (And.intro e1 e2)
            clear e1 e2 hst
            gi_wp2
            exact ⟨S.out.2.2.2.2.2.from _, ⟨⟨_, S.out.1, by rw [ES.out.1]; exact S.out.2.1⟩, rfl, ES.out.2⟩, S.out.2.2.2.1⟩
          · have hst : stopB a2 a3 upt most (tmS first x) ((pre.length : Int) + 1) (expL first frm upt a2 a3 most pre).length = false := by unfold stopB tmS; simp [q1, h2, h3, h4]
            obtain ⟨e1, e2⟩ := exp_go HON.out hst
            by_cases p5 : frm ≤ wrap64 (wrap64 (x * 86400) + first % 86400)
            · rw [if_pos (by unfold tmS; exact p5)] at e1
              have ES := Aside0.mk (And.intro e1 e2)
              clear e1 e2 hst
              gi_wp2_with (gi_at_builtin; refine wpListIn_append_own _ rfl _ _ 38 rfl (w2.heap.size + 5) 2 i0 (.int .i64 0) 1 8 Tryz.underlying38 hi hz0' hz1' hz2' rfl (by decide) _ _ _ rfl (S.out.2.1.alloc _) ⟨W.heap.size, 0, none⟩ 1 1 [.int .i64 (wrap64 (wrap64 (x * 86400) + first % 86400))] rfl rfl (cell_one_at _ _ _ (by simp)) (by simp [Value.oneCell']) (by unfold maxLen; omega) (by omega) (by simp; omega) ?_; intro v' w1 hown' hgrow _; obtain ⟨g', cap', rfl⟩ := ownsRow_succ hown'; have T := Aside0.mk (app_out (by simp; omega) S.out.1 S.out.2.1 S.out.2.2.1 S.out.2.2.2.1 hown' hgrow); have hc1 := T.out.1.cell; have hf1 := T.out.1.frozen; clear hown' hgrow)
              exact ⟨(S.out.2.2.2.2.2.trans T.out.2.2.2.2.2.2).from _, S.out.2.2.2.2.1.trans T.out.2.2.2.2.2.1, ⟨⟨⟨_, T.out.2.1, by rw [ES.out.1]; simpa [tmS] using T.out.2.2.1⟩, by simpa using T.out.2.2.2.1⟩, ES.out.2⟩, T.out.2.2.2.2.1, Nat.le_trans hW (Nat.le_trans S.out.2.2.2.2.1.below.size T.out.2.2.2.2.2.1.below.size)⟩
            · rw [if_neg (by unfold tmS; exact p5)] at e1
              have ES := Aside0.mk (And.intro e1 e2)
              clear e1 e2 hst
              gi_wp2
              exact ⟨S.out.2.2.2.2.2.from _, S.out.2.2.2.2.1, ⟨⟨⟨_, S.out.1, by rw [ES.out.1]; exact S.out.2.1⟩, by simpa using S.out.2.2.1⟩, ES.out.2⟩, S.out.2.2.2.1, Nat.le_trans hW S.out.2.2.2.2.1.below.size⟩
        · rcases P4 with h4 | h4
          · have hst : stopB a2 a3 upt most (tmS first x) ((pre.length : Int) + 1) (expL first frm upt a2 a3 most pre).length = true := by unfold stopB tmS; simp [q1, h2, h3, h3', h4]
            obtain ⟨e1, e2⟩ := exp_stop HON.out hst
            have ES := Aside0.mk (And.intro e1 e2)
            clear e1 e2 hst
            gi_wp2
            exact ⟨S.out.2.2.2.2.2.from _, ⟨⟨_, S.out.1, by rw [ES.out.1]; exact S.out.2.1⟩, rfl, ES.out.2⟩, S.out.2.2.2.1⟩
          · have hst : stopB a2 a3 upt most (tmS first x) ((pre.length : Int) + 1) (expL first frm upt a2 a3 most pre).length = false := by unfold stopB tmS; simp [q1, h2, h3, h3', h4]
            obtain ⟨e1, e2⟩ := exp_go HON.out hst
            by_cases p5 : frm ≤ wrap64 (wrap64 (x * 86400) + first % 86400)
            · rw [if_pos (by unfold tmS; exact p5)] at e1
              have ES := Aside0.mk (And.intro e1 e2)
              clear e1 e2 hst
              gi_wp2_with (gi_at_builtin; refine wpListIn_append_own _ rfl _ _ 38 rfl (w2.heap.size + 5) 2 i0 (.int .i64 0) 1 8 Tryz.underlying38 hi hz0' hz1' hz2' rfl (by decide) _ _ _ rfl (S.out.2.1.alloc _) ⟨W.heap.size, 0, none⟩ 1 1 [.int .i64 (wrap64 (wrap64 (x * 86400) + first % 86400))] rfl rfl (cell_one_at _ _ _ (by simp)) (by simp [Value.oneCell']) (by unfold maxLen; omega) (by omega) (by simp; omega) ?_; intro v' w1 hown' hgrow _; obtain ⟨g', cap', rfl⟩ := ownsRow_succ hown'; have T := Aside0.mk (app_out (by simp; omega) S.out.1 S.out.2.1 S.out.2.2.1 S.out.2.2.2.1 hown' hgrow); have hc1 := T.out.1.cell; have hf1 := T.out.1.frozen; clear hown' hgrow)
              exact ⟨(S.out.2.2.2.2.2.trans T.out.2.2.2.2.2.2).from _, S.out.2.2.2.2.1.trans T.out.2.2.2.2.2.1, ⟨⟨⟨_, T.out.2.1, by rw [ES.out.1]; simpa [tmS] using T.out.2.2.1⟩, by simpa using T.out.2.2.2.1⟩, ES.out.2⟩, T.out.2.2.2.2.1, Nat.le_trans hW (Nat.le_trans S.out.2.2.2.2.1.below.size T.out.2.2.2.2.2.1.below.size)⟩
            · rw [if_neg (by unfold tmS; exact p5)] at e1
              have ES := Aside0.mk (And.intro e1 e2)
              clear e1 e2 hst
              gi_wp2
              exact ⟨S.out.2.2.2.2.2.from _, S.out.2.2.2.2.1, ⟨⟨⟨_, S.out.1, by rw [ES.out.1]; exact S.out.2.1⟩, by simpa using S.out.2.2.1⟩, ES.out.2⟩, S.out.2.2.2.1, Nat.le_trans hW S.out.2.2.2.2.1.below.size⟩
        · have hst : stopB a2 a3 upt most (tmS first x) ((pre.length : Int) + 1) (expL first frm upt a2 a3 most pre).length = true := by unfold stopB tmS; simp [q1, h2, h3, h3']
          obtain ⟨e1, e2⟩ := exp_stop HON.out hst
          have ES := Aside0.mk (And.intro e1 e2)
          clear e1 e2 hst
          gi_wp2
          exact ⟨S.out.2.2.2.2.2.from _, ⟨⟨_, S.out.1, by rw [ES.out.1]; exact S.out.2.1⟩, rfl, ES.out.2⟩, S.out.2.2.2.1⟩
      ·
        rcases P3 with h3 | ⟨h3, h3'⟩ | ⟨h3, h3'⟩
        · rcases P4 with h4 | h4
          · have hst : stopB a2 a3 upt most (tmS first x) ((pre.length : Int) + 1) (expL first frm upt a2 a3 most pre).length = true := by unfold stopB tmS; simp [q1, h2, h2', h3, h4]
            obtain ⟨e1, e2⟩ := exp_stop HON.out hst
            have ES := Aside0.mk (And.intro e1 e2)
            clear e1 e2 hst
            gi_wp2
            exact ⟨S.out.2.2.2.2.2.from _, ⟨⟨_, S.out.1, by rw [ES.out.1]; exact S.out.2.1⟩, rfl, ES.out.2⟩, S.out.2.2.2.1⟩
          · have hst : stopB a2 a3 upt most (tmS first x) ((pre.length : Int) + 1) (expL first frm upt a2 a3 most pre).length = false := by unfold stopB tmS; simp [q1, h2, h2', h3, h4]
            obtain ⟨e1, e2⟩ := exp_go HON.out hst
            by_cases p5 : frm ≤ wrap64 (wrap64 (x * 86400) + first % 86400)
            · rw [if_pos (by unfold tmS; exact p5)] at e1
              have ES := Aside0.mk (And.intro e1 e2)
              clear e1 e2 hst
              gi_wp2_with (gi_at_builtin; refine wpListIn_append_own _ rfl _ _ 38 rfl (w2.heap.size + 5) 2 i0 (.int .i64 0) 1 8 Tryz.underlying38 hi hz0' hz1' hz2' rfl (by decide) _ _ _ rfl (S.out.2.1.alloc _) ⟨W.heap.size, 0, none⟩ 1 1 [.int .i64 (wrap64 (wrap64 (x * 86400) + first % 86400))] rfl rfl (cell_one_at _ _ _ (by simp)) (by simp [Value.oneCell']) (by unfold maxLen; omega) (by omega) (by simp; omega) ?_; intro v' w1 hown' hgrow _; obtain ⟨g', cap', rfl⟩ := ownsRow_succ hown'; have T := Aside0.mk (app_out (by simp; omega) S.out.1 S.out.2.1 S.out.2.2.1 S.out.2.2.2.1 hown' hgrow); have hc1 := T.out.1.cell; have hf1 := T.out.1.frozen; clear hown' hgrow)
              exact ⟨(S.out.2.2.2.2.2.trans T.out.2.2.2.2.2.2).from _, S.out.2.2.2.2.1.trans T.out.2.2.2.2.2.1, ⟨⟨⟨_, T.out.2.1, by rw [ES.out.1]; simpa [tmS] using T.out.2.2.1⟩, by simpa using T.out.2.2.2.1⟩, ES.out.2⟩, T.out.2.2.2.2.1, Nat.le_trans hW (Nat.le_trans S.out.2.2.2.2.1.below.size T.out.2.2.2.2.2.1.below.size)⟩
            · rw [if_neg (by unfold tmS; exact p5)] at e1
              have ES := Aside0.mk (And.intro e1 e2)
              clear e1 e2 hst
              gi_wp2
              exact ⟨S.out.2.2.2.2.2.from _, S.out.2.2.2.2.1, ⟨⟨⟨_, S.out.1, by rw [ES.out.1]; exact S.out.2.1⟩, by simpa using S.out.2.2.1⟩, ES.out.2⟩, S.out.2.2.2.1, Nat.le_trans hW S.out.2.2.2.2.1.below.size⟩
        · rcases P4 with h4 | h4
          · have hst : stopB a2 a3 upt most (tmS first x) ((pre.length : Int) + 1) (expL first frm upt a2 a3 most pre).length = true := by unfold stopB tmS; simp [q1, h2, h2', h3, h3', h4]
            obtain ⟨e1, e2⟩ := exp_stop HON.out hst
            have ES := Aside0.mk (And.intro e1 e2)
            clear e1 e2 hst
            gi_wp2
            exact ⟨S.out.2.2.2.2.2.from _, ⟨⟨_, S.out.1, by rw [ES.out.1]; exact S.out.2.1⟩, rfl, ES.out.2⟩, S.out.2.2.2.1⟩
          · have hst : stopB a2 a3 upt most (tmS first x) ((pre.length : Int) + 1) (expL first frm upt a2 a3 most pre).length = false := by unfold stopB tmS; simp [q1, h2, h2', h3, h3', h4]
            obtain ⟨e1, e2⟩ := exp_go HON.out hst
            by_cases p5 : frm ≤ wrap64 (wrap64 (x * 86400) + first % 86400)
            · rw [if_pos (by unfold tmS; exact p5)] at e1
              have ES := Aside0.mk (And.intro e1 e2)
              clear e1 e2 hst
              gi_wp2_with (gi_at_builtin; refine wpListIn_append_own _ rfl _ _ 38 rfl (w2.heap.size + 5) 2 i0 (.int .i64 0) 1 8 Tryz.underlying38 hi hz0' hz1' hz2' rfl (by decide) _ _ _ rfl (S.out.2.1.alloc _) ⟨W.heap.size, 0, none⟩ 1 1 [.int .i64 (wrap64 (wrap64 (x * 86400) + first % 86400))] rfl rfl (cell_one_at _ _ _ (by simp)) (by simp [Value.oneCell']) (by unfold maxLen; omega) (by omega) (by simp; omega) ?_; intro v' w1 hown' hgrow _; obtain ⟨g', cap', rfl⟩ := ownsRow_succ hown'; have T := Aside0.mk (app_out (by simp; omega) S.out.1 S.out.2.1 S.out.2.2.1 S.out.2.2.2.1 hown' hgrow); have hc1 := T.out.1.cell; have hf1 := T.out.1.frozen; clear hown' hgrow)
              exact ⟨(S.out.2.2.2.2.2.trans T.out.2.2.2.2.2.2).from _, S.out.2.2.2.2.1.trans T.out.2.2.2.2.2.1, ⟨⟨⟨_, T.out.2.1, by rw [ES.out.1]; simpa [tmS] using T.out.2.2.1⟩, by simpa using T.out.2.2.2.1⟩, ES.out.2⟩, T.out.2.2.2.2.1, Nat.le_trans hW (Nat.le_trans S.out.2.2.2.2.1.below.size T.out.2.2.2.2.2.1.below.size)⟩
            · rw [if_neg (by unfold tmS; exact p5)] at e1
              have ES := Aside0.mk (And.intro e1 e2)
              clear e1 e2 hst
              gi_wp2
              exact ⟨S.out.2.2.2.2.2.from _, S.out.2.2.2.2.1, ⟨⟨⟨_, S.out.1, by rw [ES.out.1]; exact S.out.2.1⟩, by simpa using S.out.2.2.1⟩, ES.out.2⟩, S.out.2.2.2.1, Nat.le_trans hW S.out.2.2.2.2.1.below.size⟩
        · have hst : stopB a2 a3 upt most (tmS first x) ((pre.length : Int) + 1) (expL first frm upt a2 a3 most pre).length = true := by unfold stopB tmS; simp [q1, h2, h2', h3, h3']
          obtain ⟨e1, e2⟩ := exp_stop HON.out hst
          have ES := Aside0.mk (And.intro e1 e2)
          clear e1 e2 hst
          gi_wp2
          exact ⟨S.out.2.2.2.2.2.from _, ⟨⟨_, S.out.1, by rw [ES.out.1]; exact S.out.2.1⟩, rfl, ES.out.2⟩, S.out.2.2.2.1⟩
      · clear P3 P4
        have hst : stopB a2 a3 upt most (tmS first x) ((pre.length : Int) + 1) (expL first frm upt a2 a3 most pre).length = true := by unfold stopB tmS; simp [q1, h2, h2']
        obtain ⟨e1, e2⟩ := exp_stop HON.out hst
        have ES := Aside0.mk (And.intro e1 e2)
        clear e1 e2 hst
        gi_wp2
        exact ⟨S.out.2.2.2.2.2.from _, ⟨⟨_, S.out.1, by rw [ES.out.1]; exact S.out.2.1⟩, rfl, ES.out.2⟩, S.out.2.2.2.1⟩
  case done =>
    rintro D ys W hD rfl ⟨⟨⟨⟨v, hv, hrow, _⟩, hcn⟩, hon⟩, hbl, _⟩ hK
    have hc := hv.cell
    gi_wp2
    rw [Exit.noGoto_ret]
    refine ⟨by simp, .inl ⟨_, _, rfl, run_takeDeferred hK, ?_⟩⟩
    refine ⟨_, results_tmp2 rfl _ _ _, v, rfl, ?_, ?_⟩
    · rw [← HALL.out]; exact own_weaken (ownsRow_putObj hrow _ hK rfl) (by omega)
    · exact (HB.out.trans (hbl.mono hn0)).trans (belowK_b (w := w) (Nat.le_refl _) W D _ _ (by omega) hK rfl rfl)
  case stop =>
    rintro D c pre W hD ⟨rest, hrest⟩ ⟨⟨⟨v, hv, hrow, _⟩, rfl, hfin⟩, hbl⟩ hK
    have hc := hv.cell
    have hrr := hfin rest
    rw [hrest] at hrr
    have HRR := Aside0.mk hrr
    clear hrr hfin
    gi_wp2
    rw [Exit.noGoto_ret]
    refine ⟨by simp, .inl ⟨_, _, rfl, run_takeDeferred hK, ?_⟩⟩
    refine ⟨_, results_tmp2 rfl _ _ _, v, rfl, ?_, ?_⟩
    · rw [← HALL.out, HRR.out]; exact own_weaken (ownsRow_putObj hrow _ hK rfl) (by omega)
    · exact (HB.out.trans (hbl.mono hn0)).trans (belowK_b (w := w) (Nat.le_refl _) W D _ _ (by omega) hK rfl rfl)
end Go.Proofs.YtfbmjonhohebiaaGreatDoor
end
section
set_option linter.unusedVariables false
set_option linter.unusedSimpArgs false
namespace Go.Proofs.YtfbmjonhohebiaaGreatDoor
open Go.RowKit Go.Proofs.YtfbmjonhohebiaaGreatDoorW.PrintWords Go.Proofs.YtfbmjonhohebiaaGreatDoorW.PrintLast Go.Proofs.YtfbmjonhohebiaaGreatDoorW.PrintMore PRecurExpands
def civC (n : Int) : Int × Int × Int := if n < 31 then (1970, 1, n + 1) else if n < 59 then (1970, 2, n - 30) else if n < 90 then (1970, 3, n - 58) else (1970, 4, n - 89)
theorem civC_ok (n : Int) (h0 : 0 ≤ n) (h1 : n ≤ 119) : civ n = civC n := by
  have h : Cal.IsCivil n (civC n).1 (civC n).2.1 (civC n).2.2 := by
    unfold civC
    have b0 : Cal.bef 1970 = 0 := by decide
    have c1 : Cal.cum 1970 1 = 0 := by decide
    have c2 : Cal.cum 1970 2 = 31 := by decide
    have c3 : Cal.cum 1970 3 = 59 := by decide
    have c4 : Cal.cum 1970 4 = 90 := by decide
    have m1 : Cal.mlen 1970 1 = 31 := by decide
    have m2 : Cal.mlen 1970 2 = 28 := by decide
    have m3 : Cal.mlen 1970 3 = 31 := by decide
    have m4 : Cal.mlen 1970 4 = 30 := by decide
    split
    · exact ⟨by simp, by simp, by simp, by simp, by simp only; omega, by simp only; omega, by simp only; omega⟩
    · split
      · exact ⟨by simp, by simp, by simp, by simp, by simp only; omega, by simp only; omega, by simp only; omega⟩
      · split
        · exact ⟨by simp, by simp, by simp, by simp, by simp only; omega, by simp only; omega, by simp only; omega⟩
        · exact ⟨by simp, by simp, by simp, by simp, by simp only; omega, by simp only; omega, by simp only; omega⟩
  exact civ_eq h0 (by omega) h
theorem daysL_congr (hit hit' : Int → Bool) (step lim : Int) (hs : 0 ≤ step) : ∀ (n : Nat) (d : Int), 0 ≤ d → (∀ x, 0 ≤ x → x ≤ lim → hit x = hit' x) → daysL hit step lim n d = daysL hit' step lim n d := by
  intro n
  induction n with
  | zero => intro d _ _; rfl
  | succ n ih =>
    intro d hd h
    simp only [daysL]
    split
    · rename_i hl
      rw [h d hd (by omega), ih (d + step) (by omega) h]
    · rfl
def hitC (d : Int) : Bool := d == 0 || matchS 3 1 [] [] [⟨6, -1⟩] 0 d (civC d).1 (civC d).2.1 (civC d).2.2 1970 1 1
theorem hit_alive (x : Int) (h0 : 0 ≤ x) (h1 : x ≤ 115) : hitV 3 1 [] [] [⟨6, -1⟩] 0 x = hitC x := by
  unfold hitV hitC matchV
  rw [civC_ok x h0 (by omega), civC_ok 0 (by omega) (by omega)]
  rfl
theorem days_alive : daysV 3 1 [] [] [⟨6, -1⟩] 0 115 = [0, 24, 52, 87, 115] := by
  unfold daysV daysF
  rw [if_neg (by decide), daysL_congr _ hitC 1 115 (by decide) _ 0 (by decide) hit_alive]
  kernel_rfl
theorem exp_alive : expGo 0 0 10000000 0 (-1) 4 (daysV 3 1 [] [] [⟨6, -1⟩] (0 / 86400) (10000000 / 86400)) [] 0 = [0, 2073600, 4492800, 7516800] := by
  rw [show (0 : Int) / 86400 = 0 from by decide, show (10000000 : Int) / 86400 = 115 from by decide, days_alive]
  kernel_rfl
theorem match_alive : matchV 3 1 [] [] [⟨6, -1⟩] 0 24 = true := by
  unfold matchV
  rw [civC_ok 24 (by omega) (by omega), civC_ok 0 (by omega) (by omega)]
  kernel_rfl
end Go.Proofs.YtfbmjonhohebiaaGreatDoor
end
section
set_option linter.unusedVariables false
set_option linter.unusedSimpArgs false
namespace Go.Proofs.YtfbmjonhohebiaaGreatDoor
open Go.RowKit Go.Proofs.YtfbmjonhohebiaaGreatDoorW.PrintWords Go.Proofs.YtfbmjonhohebiaaGreatDoorW.PrintLast Go.Proofs.YtfbmjonhohebiaaGreatDoorW.PrintMore PRecurExpands
def tA : List UInt8 := [102, 114, 101, 113, 61, 77, 79, 78, 84, 72, 76, 89, 59, 66, 89, 68, 65, 89, 61, 45, 49, 115, 117]
def tB : List UInt8 := [67, 79, 85, 78, 84, 61, 49]
theorem split_A : splL (upL tA) 59 = [[70, 82, 69, 81, 61, 77, 79, 78, 84, 72, 76, 89], [66, 89, 68, 65, 89, 61, 45, 49, 83, 85]] := by kernel_rfl
theorem split_B : splL (upL tB) 59 = [[67, 79, 85, 78, 84, 61, 49]] := by kernel_rfl
theorem cut_A1 : Lib.cut [70, 82, 69, 81, 61, 77, 79, 78, 84, 72, 76, 89] [61] = ([70, 82, 69, 81], [77, 79, 78, 84, 72, 76, 89], true) := by kernel_rfl
theorem cut_A2 : Lib.cut [66, 89, 68, 65, 89, 61, 45, 49, 83, 85] [61] = ([66, 89, 68, 65, 89], [45, 49, 83, 85], true) := by kernel_rfl
theorem cut_B : Lib.cut [67, 79, 85, 78, 84, 61, 49] [61] = ([67, 79, 85, 78, 84], [49], true) := by kernel_rfl
theorem fr_A : frUp [77, 79, 78, 84, 72, 76, 89] 0 4 = 3 ∧ frOk [77, 79, 78, 84, 72, 76, 89] 4 = true := ⟨by kernel_rfl, by kernel_rfl⟩
theorem split_A2 : splL [45, 49, 83, 85] 44 = [[45, 49, 83, 85]] := by kernel_rfl
theorem itoa_m1 : Lib.itoa (-1) = [45, 49] := by rw [show (-1 : Int) = -((1 : Nat) : Int) from rfl, Lib.itoa_neg 1 (by omega), Lib.decDigits_one (by omega)]; rfl
theorem itoa_1 : Lib.itoa 1 = [49] := by rw [show (1 : Int) = ((1 : Nat) : Int) from rfl, Lib.itoa_nonneg, Lib.decDigits_one (by omega)]; rfl
theorem atoi_m1 : Lib.atoiAll [45, 49] = .ok (-1) := by kernel_rfl
theorem atoi_1 : Lib.atoiAll [49] = .ok 1 := by kernel_rfl
theorem num_m1 : numV [45, 49] = -1 ∧ numB [45, 49] = true := by
  constructor
  · unfold numV; rw [atoi_m1]
  · unfold numB; rw [atoi_m1]; simp only; rw [itoa_m1]; rfl
theorem num_1 : numV [49] = 1 ∧ numB [49] = true := by
  constructor
  · unfold numV; rw [atoi_1]
  · unfold numB; rw [atoi_1]; simp only; rw [itoa_1]; rfl
theorem dig_A : digL [45, 49, 83, 85] = [45, 49] := by kernel_rfl
theorem day_A : dayUp [45, 49, 83, 85] 7 = 6 := by kernel_rfl
theorem wk_A : wkAll (splL [45, 49, 83, 85] 44) = some [⟨6, -1⟩] := by
  rw [split_A2]
  have h : wkOne [45, 49, 83, 85] = some ⟨6, -1⟩ := by
    unfold wkOne
    rw [if_neg (by decide), if_neg (by decide), if_neg (by unfold wkBad; rw [dig_A, num_m1.1, num_m1.2]; decide), dig_A, num_m1.1, day_A]
  unfold wkAll
  rw [h]
  rfl
theorem srt_one (x : S59) : srt59 [x] = [x] := by unfold srt59; exact List.mergeSort_singleton _
theorem part_A1 : partV [70, 82, 69, 81] [77, 79, 78, 84, 72, 76, 89] rs0 = some ⟨3, 1, 0, -1, [], [], []⟩ := by
  unfold partV
  rw [if_pos (by decide), if_pos fr_A.2]
  simp only [rs0, fr_A.1]
theorem part_A2 (r : RS) : partV [66, 89, 68, 65, 89] [45, 49, 83, 85] r = some { r with k := [⟨6, -1⟩] } := by
  unfold partV
  rw [if_neg (by decide), if_neg (by decide), if_neg (by decide), if_neg (by decide), if_neg (by decide), if_neg (by decide), if_pos (by decide), wk_A, Option.map_some, srt_one]
theorem part_B : partV [67, 79, 85, 78, 84] [49] rs0 = some ⟨0, 1, 1, -1, [], [], []⟩ := by
  unfold partV
  rw [if_neg (by decide), if_neg (by decide), if_pos (by decide), num_1.1, num_1.2, if_pos (by decide)]
  rfl
theorem readP_A : readP tA = some ⟨3, 1, 0, -1, [], [], [⟨6, -1⟩]⟩ := by
  unfold readP
  rw [split_A, rg_step (r' := ⟨3, 1, 0, -1, [], [], []⟩) (by rw [cut_A1]; rfl) (by rw [cut_A1]; exact part_A1), rg_step (r' := ⟨3, 1, 0, -1, [], [], [⟨6, -1⟩]⟩) (by rw [cut_A2, cut_A1]; rfl) (by rw [cut_A2]; exact part_A2 _)]
  rfl
theorem readP_B : readP tB = some ⟨0, 1, 1, -1, [], [], []⟩ := by
  unfold readP
  rw [split_B, rg_step (r' := ⟨0, 1, 1, -1, [], [], []⟩) (by rw [cut_B]; rfl) (by rw [cut_B]; exact part_B)]
  rfl
theorem right_A : RightP 3 1 0 (-1) [] [] [⟨6, -1⟩] := by
  refine ⟨by omega, by omega, by omega, by omega, by omega, by omega, .inl rfl, fun i hi => by simp at hi, fun i hi => by simp at hi, fun _ => rfl, fun i hi => ?_⟩
  obtain rfl : i = 0 := by simpa using hi
  exact ⟨by decide, by decide, by decide, by decide, fun h => by simp at h, fun h => by omega⟩
theorem readV_A : readV tA = some ⟨3, 1, 0, -1, [], [], [⟨6, -1⟩]⟩ := by
  unfold readV
  rw [readP_A]
  exact if_pos (by unfold rightB; simpa using right_A)
theorem readV_B : readV tB = none := by
  unfold readV
  rw [readP_B]
  exact if_neg (by unfold rightB; simp; intro h; have := h.f0; omega)
end Go.Proofs.YtfbmjonhohebiaaGreatDoor
end
section
set_option linter.unusedVariables false
set_option linter.unusedSimpArgs false
namespace Go.Proofs.YtfbmjonhohebiaaGreatDoor
open Go.RowKit Go.Proofs.YtfbmjonhohebiaaGreatDoorW.PrintWords Go.Proofs.YtfbmjonhohebiaaGreatDoorW.PrintLast Go.Proofs.YtfbmjonhohebiaaGreatDoorW.PrintMore PRecurExpands
theorem read_A (w : World) (hG : Globs w) : Calls Tryz.prog 22 #[.string ⟨#[102, 114, 101, 113, 61, 77, 79, 78, 84, 72, 76, 89, 59, 66, 89, 68, 65, 89, 61, 45, 49, 115, 117]⟩] w fun e w' =>
    (∃ v4 v5 v6, e = .returned (.tuple #[.agg #[.int .i64 3, .int .i64 1, .int .i64 0, .int .i64 (-1), v4, v5, v6], .int .i64 0]) ∧
      w'.ownsRow w.heap.size 3 1 v4 0 [] ∧ w'.ownsRow w.heap.size 3 1 v5 0 [] ∧ w'.ownsRow w.heap.size 59 2 v6 1 [.int .i64 6, .int .i64 (-1)]) ∧ Below w.heap.size w w' := by
  have h := recur_Read ⟨#[102, 114, 101, 113, 61, 77, 79, 78, 84, 72, 76, 89, 59, 66, 89, 68, 65, 89, 61, 45, 49, 115, 117]⟩ (by decide) w hG
  rw [show (ByteArray.mk #[102, 114, 101, 113, 61, 77, 79, 78, 84, 72, 76, 89, 59, 66, 89, 68, 65, 89, 61, 45, 49, 115, 117]).data.toList = tA from rfl, readV_A] at h
  exact h
theorem read_B (w : World) (hG : Globs w) : Calls Tryz.prog 22 #[.string ⟨#[67, 79, 85, 78, 84, 61, 49]⟩] w fun e w' => e = .returned (.tuple #[nil7, .int .i64 3]) ∧ Below w.heap.size w w' := by
  have h := recur_Read ⟨#[67, 79, 85, 78, 84, 61, 49]⟩ (by decide) w hG
  rw [show (ByteArray.mk #[67, 79, 85, 78, 84, 61, 49]).data.toList = tB from rfl, readV_B] at h
  exact h
theorem own_C_nil {w : World} {base : Nat} {A : Option Addr} {c : Nat} (h : w.ownsRow base 3 1 (.slice A 0 c) 0 []) : Kd.C (Kd.int .i64) w A ([] : List Int).length [] := by
  obtain ⟨A', c', e, _, hC⟩ := own_reads_i (xs := []) h
  injection e with e1 e2 e3
  subst e1
  exact hC
theorem own_C_one {w : World} {base : Nat} {A : Option Addr} {c : Nat} (h : w.ownsRow base 59 2 (.slice A 1 c) 1 [.int .i64 6, .int .i64 (-1)]) : 1 ≤ c ∧ Kd.C k59 w A [(⟨6, -1⟩ : S59)].length [⟨6, -1⟩] := by
  obtain ⟨A', c', e, hc, hC⟩ := own_reads_k (xs := [⟨6, -1⟩]) h
  injection e with e1 e2 e3
  subst e1 e3
  exact ⟨hc, hC⟩
theorem expand_A {A4 A5 A6 : Option Addr} {c4 c5 c6 : Nat} {W : World} {base : Nat} (h4 : W.ownsRow base 3 1 (.slice A4 0 c4) 0 []) (h5 : W.ownsRow base 3 1 (.slice A5 0 c5) 0 []) (h6 : W.ownsRow base 59 2 (.slice A6 1 c6) 1 [.int .i64 6, .int .i64 (-1)]) :
    Calls Tryz.prog 16 #[.agg #[.int .i64 3, .int .i64 1, .int .i64 0, .int .i64 (-1), .slice A4 0 c4, .slice A5 0 c5, .slice A6 1 c6], .int .i64 0, .int .i64 0, .int .i64 10000000, .int .i64 4] W fun e w' =>
      (∃ g cap cur, e = .returned (.tuple #[.slice (some ⟨g, 0, none⟩) 4 cap, .int .i64 0]) ∧ w'.heap[g]? = some (.cells cur 2 (0, 0)) ∧ cur[0]? = some (.int .i64 0) ∧ cur[1]? = some (.int .i64 2073600) ∧ cur[3]? = some (.int .i64 7516800)) ∧ Below W.heap.size W w' := by
  obtain ⟨hc6, hC6⟩ := own_C_one h6
  have h := recur_Expand_ok 3 1 0 (-1) A4 A5 A6 c4 c5 c6 [] [] [⟨6, -1⟩] right_A 0 0 10000000 4 W (own_C_nil h4) (Nat.zero_le _) (own_C_nil h5) (Nat.zero_le _) hC6 hc6 (by simp) (by simp) (by simp) (by decide) (by decide) (by decide) (by omega) (by omega) (by omega)
  rw [exp_alive] at h
  refine h.mono ?_
  rintro e w' ⟨v, rfl, hrow, hb⟩
  refine ⟨?_, hb⟩
  obtain ⟨h1, ⟨rfl, h0⟩ | ⟨g, cap, cur, rfl, hbs, hh, hc, hm, hs, ht⟩⟩ := hrow
  · simp at h0
  · have k : ∀ j, j < 4 → cur[j]? = ([0, 2073600, 4492800, 7516800].map (Value.int .i64))[j]? := by
      intro j hj
      rw [← ht, List.getElem?_take_of_lt (by simpa using hj)]
      simp
    exact ⟨g, cap, cur, rfl, hh, k 0 (by omega), k 1 (by omega), k 3 (by omega)⟩
theorem match_A {A4 A5 A6 : Option Addr} {c4 c5 c6 : Nat} {W : World} {base : Nat} (h4 : W.ownsRow base 3 1 (.slice A4 0 c4) 0 []) (h5 : W.ownsRow base 3 1 (.slice A5 0 c5) 0 []) (h6 : W.ownsRow base 59 2 (.slice A6 1 c6) 1 [.int .i64 6, .int .i64 (-1)]) :
    Calls Tryz.prog 12 #[.agg #[.int .i64 3, .int .i64 1, .int .i64 0, .int .i64 (-1), .slice A4 0 c4, .slice A5 0 c5, .slice A6 1 c6], .int .i64 0, .int .i64 24] W fun e w' =>
      e = .returned (.tuple #[.bool true, .int .i64 0]) ∧ Below W.heap.size W w' := by
  obtain ⟨hc6, hC6⟩ := own_C_one h6
  have h := recur_Match 3 1 0 (-1) A4 A5 A6 c4 c5 c6 [] [] [⟨6, -1⟩] true (by simp [right_A]) 0 24 W (own_C_nil h4) (Nat.zero_le _) (own_C_nil h5) (Nat.zero_le _) hC6 hc6 (by simp) (by simp) (by simp)
  rw [show MatchB true 3 1 [] [] [⟨6, -1⟩] 0 24 = true from by unfold MatchB; simp [match_alive, isDayS], show MatchE true 0 24 = 0 from by decide] at h
  exact h
set_option maxRecDepth 100000 in
set_option maxHeartbeats 4000000 in
theorem law21_alive (w : World) (hG : Globs w) : Calls Tryz.prog 11 #[] w fun e w' => e = .returned (.bool true) ∧ Below w.heap.size w w' := by
  have HG := Aside0.mk hG
  have hgs := hG.size
  clear hG
  go_enter Tryz.func11, Tryz.ntmps11
  go_wp2_with fail
  refine (read_A _ HG.out).mono ?_
  rintro e w2 ⟨⟨v4, v5, v6, rfl, h4, h5, h6⟩, hb2⟩
  obtain ⟨A4, c4, rfl⟩ := own_slice h4
  obtain ⟨A5, c5, rfl⟩ := own_slice h5
  obtain ⟨A6, c6, rfl⟩ := own_slice h6
  have H4 := Aside0.mk h4
  have H5 := Aside0.mk h5
  have H6 := Aside0.mk h6
  have HB := Aside0.mk hb2
  clear h4 h5 h6 hb2
  go_wp2_with fail
  refine (expand_A (H4.out.alloc _) (H5.out.alloc _) (H6.out.alloc _)).mono ?_
  rintro e w3 ⟨⟨g, cap, cur, rfl, hg, k0, k1, k3⟩, hb3⟩
  have hgl : g < w3.heap.size := blk_lt hg
  have hr0 : w3.cell? ⟨g, 0, none⟩ = some (.int .i64 0) := (blk_cell hg 0).trans k0
  have hr1 : w3.cell? ⟨g, 1, none⟩ = some (.int .i64 2073600) := (blk_cell hg 1).trans k1
  have hr3 : w3.cell? ⟨g, 3, none⟩ = some (.int .i64 7516800) := (blk_cell hg 3).trans k3
  clear hg k0 k1 k3
  obtain ⟨hc3, hf3⟩ := bcell hb3
  have hz3 : w2.heap.size < w3.heap.size := by have := hb3.size; simp at this; omega
  have HB3 := Aside0.mk hb3
  clear hb3
  have hw2 : Below w.heap.size w w3 := (HB.out.alloc HB.out.size _).trans (HB3.out.mono (by have := HB.out.size; simp; omega))
  have HW3 := Aside0.mk hw2
  clear hw2
  go_wp2_with fail
  refine (read_B _ (HG.out.below HW3.out)).mono ?_
  rintro e w4 ⟨rfl, hb4⟩
  obtain ⟨hc4, hf4⟩ := bcell hb4
  have hz4 : w2.heap.size < w4.heap.size := Nat.lt_of_lt_of_le hz3 hb4.size
  have hz5 : g < w4.heap.size := Nat.lt_of_lt_of_le hgl hb4.size
  have HB4 := Aside0.mk hb4
  clear hb4
  unfold nil7
  go_wp2_with fail
  have hk : ∀ (o : Obj) (k : Nat), k < w2.heap.size → (w4.alloc o).heap[k]? = w2.heap[k]? := fun o k hk => (Below.heap_alloc w4 o k (by omega)).trans ((HB4.out.block k (by omega)).trans ((HB3.out.block k (by simp; omega)).trans (Below.heap_alloc w2 _ k hk)))
  have HK := Aside0.mk hk
  clear hk
  refine (match_A (base := w.heap.size) (own_move H4.out (fun k e => HK.out _ k (own_lt H4.out k e))) (own_move H5.out (fun k e => HK.out _ k (own_lt H5.out k e))) (own_move H6.out (fun k e => HK.out _ k (own_lt H6.out k e)))).mono ?_
  rintro e w5 ⟨rfl, hb5⟩
  obtain ⟨hc5, hf5⟩ := bcell hb5
  have hz6 : g < w4.heap.size + 1 := by omega
  have HB5 := Aside0.mk hb5
  clear hb5
  go_wp2_with fail
  go_ret
  have h34 := HW3.out.trans (HB4.out.mono HW3.out.size)
  exact ⟨rfl, (h34.alloc h34.size _).trans (HB5.out.mono (by have := h34.size; simp; omega))⟩
end Go.Proofs.YtfbmjonhohebiaaGreatDoor
end
section
set_option linter.unusedVariables false
set_option linter.unusedSimpArgs false
namespace Go.Proofs.YtfbmjonhohebiaaGreatDoor
open Go.RowKit Go.Proofs.YtfbmjonhohebiaaGreatDoorW.PrintWords Go.Proofs.YtfbmjonhohebiaaGreatDoorW.PrintLast Go.Proofs.YtfbmjonhohebiaaGreatDoorW.PrintMore PRecurExpands
theorem daysL_ge (hit : Int → Bool) (step lim : Int) (hs : 1 ≤ step) : ∀ (n : Nat) (d : Int), ∀ x ∈ daysL hit step lim n d, d ≤ x ∧ x ≤ lim ∧ hit x = true := by
  intro n
  induction n with
  | zero => intro d x hx; simp [daysL] at hx
  | succ n ih =>
    intro d x hx
    simp only [daysL] at hx
    split at hx
    · rename_i hl
      split at hx
      · rename_i hh
        rcases List.mem_cons.mp hx with rfl | hx
        · exact ⟨Int.le_refl _, hl, hh⟩
        · have := ih _ x hx; exact ⟨by omega, this.2⟩
      · have := ih _ x hx; exact ⟨by omega, this.2⟩
    · simp at hx
theorem daysF_ge (hit : Int → Bool) (step lim d : Int) (hs : 1 ≤ step) : ∀ x ∈ daysF hit step lim d, d ≤ x ∧ x ≤ lim ∧ hit x = true := daysL_ge hit step lim hs _ d
theorem daysF_skip (hit : Int → Bool) (lim d : Int) : ∀ (j : Nat), (∀ i : Nat, i < j → hit (d + i) = false) → daysF hit 1 lim d = daysF hit 1 lim (d + j) := by
  intro j
  induction j with
  | zero => intro _; simp
  | succ j ih =>
    intro h
    rw [ih (fun i hi => h i (by omega))]
    by_cases hl : d + j ≤ lim
    · rw [daysF_miss hit 1 lim (d + j) (Int.le_refl _) hl (h j (by omega))]
      congr 1; omega
    · rw [daysF_over hit 1 lim _ (by omega), daysF_over hit 1 lim _ (by omega)]
theorem daysF_stride (hit : Int → Bool) (s lim f : Int) (hs : 1 ≤ s) (hh : ∀ x, hit x = true → (x - f) % s = 0) : ∀ (n : Nat) (d : Int), (lim + 1 - d).toNat ≤ n → (d - f) % s = 0 → daysF hit s lim d = daysF hit 1 lim d := by
  intro n
  induction n with
  | zero => intro d hd _; rw [daysF_over hit s lim d (by omega), daysF_over hit 1 lim d (by omega)]
  | succ n ih =>
    intro d hd hm
    by_cases hl : d ≤ lim
    · have hsk : daysF hit 1 lim (d + 1) = daysF hit 1 lim (d + s) := by
        have := daysF_skip hit lim (d + 1) (s - 1).toNat (fun i hi => by
          cases hx : hit (d + 1 + i) with
          | false => rfl
          | true =>
            exfalso
            have h1 := hh _ hx
            have e : (d + 1 + (i : Int) - f) % s = (1 + (i : Int)) % s := by
              rw [show d + 1 + (i : Int) - f = (d - f) + (1 + i) by omega, Int.add_emod, hm, Int.zero_add, Int.emod_emod]
            rw [e, Int.emod_eq_of_lt (by omega) (by omega)] at h1
            omega)
        rw [this]; congr 1; omega
      have hnx : (d + s - f) % s = 0 := by rw [show d + s - f = (d - f) + s by omega, Int.add_emod, hm, Int.emod_self]; rfl
      have hi := ih (d + s) (by omega) hnx
      cases hx : hit d with
      | true => rw [daysF_hit hit s lim d hs hl hx, daysF_hit hit 1 lim d (Int.le_refl _) hl hx, hi, hsk]
      | false => rw [daysF_miss hit s lim d hs hl hx, daysF_miss hit 1 lim d (Int.le_refl _) hl hx, hi, hsk]
    · rw [daysF_over hit s lim d (by omega), daysF_over hit 1 lim d (by omega)]
theorem hitV_daily (a1 : Int) (l4 l5 : List Int) (l6 : List S59) (f x : Int) (hs : 1 ≤ a1) (h : hitV 1 a1 l4 l5 l6 f x = true) : (x - f) % a1 = 0 := by
  unfold hitV at h
  rcases Bool.or_eq_true _ _ |>.mp h with h | h
  · rw [beq_iff_eq] at h; subst h; simp
  · unfold matchV matchS at h
    split at h
    · cases h
    split at h
    · cases h
    rw [if_pos rfl, Bool.and_eq_true, beq_iff_eq] at h
    exact h.1
noncomputable def hitsV (a0 a1 : Int) (l4 l5 : List Int) (l6 : List S59) (f lim : Int) : List Int := daysF (hitV a0 a1 l4 l5 l6 f) 1 lim f
theorem daysV_hits (a0 a1 : Int) (l4 l5 : List Int) (l6 : List S59) (f lim : Int) (hs : 1 ≤ a1) : daysV a0 a1 l4 l5 l6 f lim = hitsV a0 a1 l4 l5 l6 f lim := by
  unfold daysV hitsV
  by_cases e : a0 = 1
  · subst e
    rw [if_pos rfl]
    exact daysF_stride _ a1 lim f hs (fun x h => hitV_daily a1 l4 l5 l6 f x hs h) _ f (Nat.le_refl _) (by simp)
  · rw [if_neg e]
theorem tmS_eq (first d : Int) (h0 : 0 ≤ d) (h1 : d ≤ 3000000) : tmS first d = d * 86400 + first % 86400 := by
  unfold tmS
  rw [wrap64_in (x := d * 86400) (by omega) (by omega), wrap64_in (by omega) (by omega)]
noncomputable def expV (b : Bool) (a0 a1 a2 a3 : Int) (l4 l5 : List Int) (l6 : List S59) (first frm upt most : Int) : List Int :=
  if expE b first frm upt most = 0 then expGo first frm upt a2 a3 most (hitsV a0 a1 l4 l5 l6 (first / 86400) (upt / 86400)) [] 0 else []
theorem timeP_S (t : Int) : timeS t = true ↔ timeP t := by unfold timeS timeP; simp
end Go.Proofs.YtfbmjonhohebiaaGreatDoor
end
section
set_option linter.unusedVariables false
set_option linter.unusedSimpArgs false
namespace Go.Proofs.YtfbmjonhohebiaaGreatDoor
open Go.RowKit Go.Proofs.YtfbmjonhohebiaaGreatDoorW.PrintWords Go.Proofs.YtfbmjonhohebiaaGreatDoorW.PrintLast Go.Proofs.YtfbmjonhohebiaaGreatDoorW.PrintMore PRecurExpands
structure Lists (w : World) (A4 A5 A6 : Option Addr) (c4 c5 c6 : Nat) (l4 l5 : List Int) (l6 : List S59) : Prop where
  r4 : Kd.C (Kd.int .i64) w A4 l4.length l4
  k4 : l4.length ≤ c4
  r5 : Kd.C (Kd.int .i64) w A5 l5.length l5
  k5 : l5.length ≤ c5
  r6 : Kd.C k59 w A6 l6.length l6
  k6 : l6.length ≤ c6
theorem Lists.below {w w' : World} {A4 A5 A6 : Option Addr} {c4 c5 c6 : Nat} {l4 l5 : List Int} {l6 : List S59} (h : Lists w A4 A5 A6 c4 c5 c6 l4 l5 l6) (hb : Below w.heap.size w w') : Lists w' A4 A5 A6 c4 c5 c6 l4 l5 l6 :=
  ⟨Kd.C_below h.r4 hb, h.k4, Kd.C_below h.r5 hb, h.k5, Kd.C_below h.r6 hb, h.k6⟩
def greatB (l4 l5 : List Int) (l6 : List S59) : Bool := decide (100 < l4.length + l5.length) || decide (100 < l6.length)
theorem great_c {a0 a1 a2 a3 : Int} {A4 A5 A6 : Option Addr} {c4 c5 c6 : Nat} {l4 l5 : List Int} {l6 : List S59} {w : World} (h : Lists w A4 A5 A6 c4 c5 c6 l4 l5 l6) (m4 : l4.length ≤ maxLen) (m5 : l5.length ≤ maxLen) (hl : (l4.length + l5.length : Int) ≤ 9223372036854775807) :
    Calls Tryz.prog 10 #[.agg #[.int .i64 a0, .int .i64 a1, .int .i64 a2, .int .i64 a3, .slice A4 l4.length c4, .slice A5 l5.length c5, .slice A6 l6.length c6]] w fun e w' => e = .returned (.bool (greatB l4 l5 l6)) ∧ Below w.heap.size w w' := by
  refine posthornlaw21_Great.calls a0 a1 a2 a3 A4 c4 l4 A5 c5 l5 A6 c6 l6 _ w h.r4 h.k4 h.r5 h.k5 h.r6 h.k6 ?_
  unfold posthornlaw21_Great.f greatB
  rw [wrap64_in (by omega) hl]
  by_cases g : (l4.length : Int) + (l5.length : Int) > 100
  · rw [if_pos g, decide_eq_true (show 100 < l4.length + l5.length by omega), Bool.true_or]
  · rw [if_neg g, decide_eq_false (show ¬ 100 < l4.length + l5.length by omega), Bool.false_or]
    congr 1
    rw [Bool.eq_iff_iff, decide_eq_true_eq, decide_eq_true_eq]
    omega
theorem greatB_len {l4 l5 : List Int} {l6 : List S59} (h : greatB l4 l5 l6 = false) : l4.length ≤ 100 ∧ l5.length ≤ 100 ∧ l6.length ≤ 100 := by
  unfold greatB at h
  simp only [Bool.or_eq_false_iff, decide_eq_false_iff_not] at h
  omega
structure ListsR (w : World) (A4 A5 A7 : Option Addr) (c4 c5 c7 : Nat) (l4 l5 : List Int) (l6 : List S59) : Prop where
  r4 : Kd.C (Kd.int .i64) w A4 l4.length l4
  k4 : l4.length ≤ c4
  r5 : Kd.C (Kd.int .i64) w A5 l5.length l5
  k5 : l5.length ≤ c5
  r7 : Kd.C k60 w A7 l6.length (l6.map to60)
  k7 : l6.length ≤ c7
theorem ListsR.below {w w' : World} {A4 A5 A7 : Option Addr} {c4 c5 c7 : Nat} {l4 l5 : List Int} {l6 : List S59} (h : ListsR w A4 A5 A7 c4 c5 c7 l4 l5 l6) (hb : Below w.heap.size w w') : ListsR w' A4 A5 A7 c4 c5 c7 l4 l5 l6 :=
  ⟨Kd.C_below h.r4 hb, h.k4, Kd.C_below h.r5 hb, h.k5, Kd.C_below h.r7 hb, h.k7⟩
end Go.Proofs.YtfbmjonhohebiaaGreatDoor
end
section
set_option linter.unusedVariables false
set_option linter.unusedSimpArgs false
namespace Go.Proofs.YtfbmjonhohebiaaGreatDoor
open Go.RowKit Go.Proofs.YtfbmjonhohebiaaGreatDoorW.PrintWords Go.Proofs.YtfbmjonhohebiaaGreatDoorW.PrintLast Go.Proofs.YtfbmjonhohebiaaGreatDoorW.PrintMore PRecurExpands
structure AliveC (G : World → Prop) : Prop where
  mono : ∀ {w w' : World}, G w → Below w.heap.size w w' → G w'
  calls : ∀ {w : World}, G w → Calls Tryz.prog 11 #[] w fun e w' => e = .returned (.bool true) ∧ Below w.heap.size w w'
end Go.Proofs.YtfbmjonhohebiaaGreatDoor
end
section
set_option linter.unusedVariables false
set_option linter.unusedSimpArgs false
namespace Go.Proofs.YtfbmjonhohebiaaGreatDoor
open Go.RowKit Go.Proofs.YtfbmjonhohebiaaGreatDoorW.PrintWords Go.Proofs.YtfbmjonhohebiaaGreatDoorW.PrintLast Go.Proofs.YtfbmjonhohebiaaGreatDoorW.PrintMore PRecurExpands
theorem times_ev (l : List Int) (hl : l.length ≤ 1000000000) : Ev (fun k => posthornref21_SameTimes.f k l l) true := by
  unfold posthornref21_SameTimes.f
  refine Ev.pos rfl ?_
  have key : ∀ d i : Nat, i + d = l.length → Ev (fun k => posthornref21_SameTimes.l0 k l l (i : Int)) true := by
    intro d
    induction d with
    | zero => intro i hi; exact Ev.step (f := fun _ => some true) (fun k => by simp only [posthornref21_SameTimes.l0]; rw [if_neg (by omega)]) (Ev.now _)
    | succ d ih =>
      intro i hi
      refine Ev.step (fun k => ?_) (ih (i + 1) (by omega))
      simp only [posthornref21_SameTimes.l0]
      rw [if_pos (by omega), if_pos (by omega), if_pos (by omega), if_pos trivial, wrap64_in (by omega) (by omega)]
      rfl
  exact key l.length 0 (by omega)
theorem times_c {l : List Int} {A B : Option Addr} {c d : Nat} {w : World} (hl : l.length ≤ 1000000000) (hA : Kd.C (Kd.int .i64) w A l.length l) (hc : l.length ≤ c) (hB : Kd.C (Kd.int .i64) w B l.length l) (hd : l.length ≤ d) :
    Calls Tryz.prog 18 #[.slice A l.length c, .slice B l.length d] w fun e w' => e = .returned (.bool true) ∧ Below w.heap.size w w' := by
  obtain ⟨k, hk⟩ := (times_ev l hl).rounds
  exact (posthornref21_SameTimes.calls k A c l B d l true w hA hc hB hd hk).mono fun e w' h => ⟨h.1, h.2.below⟩
def farB (first upt : Int) : Bool := decide (8589934592 < first) && decide (first < upt) && decide (67108864 < upt - first)
theorem far_c (first upt : Int) (w : World) (hf0 : -9223372036854775808 ≤ first) (hu : upt ≤ 9223372036854775807) :
    Calls Tryz.prog 15 #[.int .i64 first, .int .i64 upt] w fun e w' => e = .returned (.bool (farB first upt)) ∧ Below w.heap.size w w' := by
  refine (posthornlaw21_Far.calls first upt (farB first upt) w ?_).mono fun e w' h => ⟨h.1, h.2.below⟩
  unfold posthornlaw21_Far.f farB
  by_cases h1 : first > 8589934592
  · rw [if_pos h1, decide_eq_true (show 8589934592 < first from h1), Bool.true_and]
    by_cases h2 : upt > first
    · rw [if_pos h2, decide_eq_true (show first < upt from h2), Bool.true_and, wrap64_in (by omega) (by omega)]
    · rw [if_neg h2, decide_eq_false (show ¬ first < upt from h2), Bool.false_and]
  · rw [if_neg h1, decide_eq_false (show ¬ 8589934592 < first from h1), Bool.false_and, Bool.false_and]
theorem rec_expand_c {a0 a1 a2 a3 : Int} {A4 A5 A6 : Option Addr} {c4 c5 c6 : Nat} {l4 l5 : List Int} {l6 : List S59} {b : Bool} (hb : b = true ↔ RightP a0 a1 a2 a3 l4 l5 l6) {first frm upt most : Int} {w : World} (h : Lists w A4 A5 A6 c4 c5 c6 l4 l5 l6)
    (h4 : l4.length ≤ 1000000000) (h5 : l5.length ≤ 1000000000) (h6 : l6.length ≤ 1000000000) :
    Calls Tryz.prog 16 #[.agg #[.int .i64 a0, .int .i64 a1, .int .i64 a2, .int .i64 a3, .slice A4 l4.length c4, .slice A5 l5.length c5, .slice A6 l6.length c6], .int .i64 first, .int .i64 frm, .int .i64 upt, .int .i64 most] w fun e w' =>
      ∃ L A c, Aside0 (L = expV b a0 a1 a2 a3 l4 l5 l6 first frm upt most) ∧ e = .returned (.tuple #[.slice A L.length c, .int .i64 (expE b first frm upt most)]) ∧ Aside0 (Kd.C (Kd.int .i64) w' A L.length L ∧ L.length ≤ c) ∧ Below w.heap.size w w' := by
  by_cases he : expE b first frm upt most = 0
  · have hbt : b = true := by
      cases b with
      | true => rfl
      | false => simp [expE] at he
    have hx : timeS first = true ∧ timeS frm = true ∧ timeS upt = true ∧ ¬ 631152000 < upt - first ∧ ¬ most < 1 ∧ ¬ 1000 < most := by
      unfold expE at he
      rw [if_neg (by rw [hbt]; decide)] at he
      split at he
      · cases he
      · rename_i hn
        split at he
        · cases he
        · rename_i hm
          refine ⟨?_, ?_, ?_, by omega, by omega, by omega⟩
          · cases ht : timeS first with | true => rfl | false => exact absurd (.inl ht) hn
          · cases ht : timeS frm with | true => rfl | false => exact absurd (.inr (.inl ht)) hn
          · cases ht : timeS upt with | true => rfl | false => exact absurd (.inr (.inr ht)) hn
    obtain ⟨t1, t2, t3, x1, x2, x3⟩ := hx
    have hR := hb.mp hbt
    refine (recur_Expand_ok a0 a1 a2 a3 A4 A5 A6 c4 c5 c6 l4 l5 l6 hR first frm upt most w h.r4 h.k4 h.r5 h.k5 h.r6 h.k6 h4 h5 h6 t1 t2 t3 x1 x2 x3).mono ?_
    rintro e w' ⟨v, rfl, hown, hbw⟩
    rw [daysV_hits _ _ _ _ _ _ _ hR.i0] at hown
    have hL : expGo first frm upt a2 a3 most (hitsV a0 a1 l4 l5 l6 (first / 86400) (upt / 86400)) [] 0 = expV b a0 a1 a2 a3 l4 l5 l6 first frm upt most := by unfold expV; rw [if_pos he]
    rw [hL] at hown
    obtain ⟨A, c, rfl, hc, hC⟩ := Kd.R_reads (d := Kd.int .i64) (e := 2) (base := w.heap.size) (ok := fun _ => True) (Kd.R_of_own hown (fun _ _ => trivial))
    exact ⟨_, A, c, ⟨rfl⟩, by rw [he], ⟨hC, hc⟩, hbw⟩
  · refine (recur_Expand_bad a0 a1 a2 a3 A4 A5 A6 c4 c5 c6 l4 l5 l6 b hb first frm upt most w h.r4 h.k4 h.r5 h.k5 h.r6 h.k6 h4 h5 h6 he).mono ?_
    rintro e w' ⟨rfl, hbw⟩
    have hL : ([] : List Int) = expV b a0 a1 a2 a3 l4 l5 l6 first frm upt most := by unfold expV; rw [if_neg he]
    exact ⟨[], none, 0, ⟨hL⟩, rfl, ⟨⟨rfl, by simp, fun hn => by simp at hn⟩, Nat.le_refl _⟩, hbw⟩
theorem expGo_most (first frm upt c u most : Int) (hm : 0 ≤ most) : ∀ (ds out : List Int) (n : Int), (out.length : Int) ≤ most → ((expGo first frm upt c u most ds out n).length : Int) ≤ most := by
  intro ds
  induction ds with
  | nil => intro out n h; exact h
  | cons d ds ih =>
    intro out n h
    simp only [expGo]
    split
    · exact h
    · rename_i hst
      refine ih _ _ ?_
      split
      · have : ¬ ((out.length : Int) = most) := fun e => hst (by unfold stopB; rw [beq_iff_eq.mpr e]; simp)
        simp; omega
      · exact h
theorem expV_len (b : Bool) (a0 a1 a2 a3 : Int) (l4 l5 : List Int) (l6 : List S59) (first frm upt most : Int) : (expV b a0 a1 a2 a3 l4 l5 l6 first frm upt most).length ≤ 1000 := by
  unfold expV
  split
  · rename_i he
    have hm : 0 ≤ most ∧ most ≤ 1000 := by
      unfold expE at he
      split at he
      · cases he
      · split at he
        · cases he
        · split at he
          · cases he
          · omega
    have := expGo_most first frm upt a2 a3 most hm.1 (hitsV a0 a1 l4 l5 l6 (first / 86400) (upt / 86400)) [] 0 (by simp; omega)
    omega
  · simp
attribute [local go_sem high] eqA60
end Go.Proofs.YtfbmjonhohebiaaGreatDoor
end
section
set_option linter.unusedVariables false
set_option linter.unusedSimpArgs false
namespace Go.Proofs.YtfbmjonhohebiaaGreatDoor
open Go.RowKit Go.Proofs.YtfbmjonhohebiaaGreatDoorW.PrintWords Go.Proofs.YtfbmjonhohebiaaGreatDoorW.PrintLast Go.Proofs.YtfbmjonhohebiaaGreatDoorW.PrintMore PRecurExpands
abbrev Srt (l : List Int) : Prop := l.Pairwise (· < ·)
theorem srt_filter_lt_take : ∀ (l : List Int) (k : Nat) (m : Int), Srt l → (l.take k).filter (fun x => decide (x < m)) = (l.filter (fun x => decide (x < m))).take k := by
  intro l
  induction l with
  | nil => intro k m _; simp
  | cons a l ih =>
    intro k m h
    cases k with
    | zero => simp
    | succ k =>
      obtain ⟨h1, h2⟩ := List.pairwise_cons.mp h
      by_cases ha : a < m
      · simp only [List.take_succ_cons, List.filter_cons, decide_eq_true ha, if_true]
        rw [ih k m h2]
      · have hn : ∀ x ∈ l, ¬ x < m := fun x hx => by have := h1 x hx; omega
        have e1 : (l.take k).filter (fun x => decide (x < m)) = [] := List.filter_eq_nil_iff.mpr (fun x hx => by have := hn x (List.mem_of_mem_take hx); simpa using this)
        have e2 : l.filter (fun x => decide (x < m)) = [] := List.filter_eq_nil_iff.mpr (fun x hx => by have := hn x hx; simpa using this)
        simp only [List.take_succ_cons, List.filter_cons, decide_eq_false ha, e1, e2]
        simp
theorem srt_split : ∀ (l : List Int) (a m : Int), Srt l → a ≤ m → (l.filter (fun x => decide (x < m))).filter (fun x => decide (a ≤ x)) ++ l.filter (fun x => decide (m ≤ x)) = l.filter (fun x => decide (a ≤ x)) := by
  intro l
  induction l with
  | nil => intro a m _ _; rfl
  | cons b l ih =>
    intro a m h ham
    obtain ⟨h1, h2⟩ := List.pairwise_cons.mp h
    by_cases hb : b < m
    · rw [List.filter_cons, if_pos (decide_eq_true hb), List.filter_cons (xs := l), if_neg (by simp; omega)]
      by_cases hab : a ≤ b
      · rw [List.filter_cons, if_pos (decide_eq_true hab), List.filter_cons, if_pos (decide_eq_true hab), List.cons_append, ih a m h2 ham]
      · rw [List.filter_cons, if_neg (by simpa using hab), List.filter_cons, if_neg (by simpa using hab), ih a m h2 ham]
    · have e1 : (b :: l).filter (fun x => decide (x < m)) = [] := List.filter_eq_nil_iff.mpr (fun x hx => by
        rcases List.mem_cons.mp hx with rfl | hx
        · simpa using hb
        · have := h1 x hx; simp; omega)
      have e2 : (b :: l).filter (fun x => decide (m ≤ x)) = b :: l := List.filter_eq_self.mpr (fun x hx => by
        rcases List.mem_cons.mp hx with rfl | hx
        · simp; omega
        · have := h1 x hx; simp; omega)
      have e3 : (b :: l).filter (fun x => decide (a ≤ x)) = b :: l := List.filter_eq_self.mpr (fun x hx => by
        rcases List.mem_cons.mp hx with rfl | hx
        · simp; omega
        · have := h1 x hx; simp; omega)
      rw [e1, e2, e3]; rfl
theorem take_two (k : Nat) (a b : List Int) : (a.take k ++ b.take k).take k = (a ++ b).take k := by
  rw [List.take_append, List.take_append, List.take_take, Nat.min_self, List.length_take, List.take_take]
  congr 2
  omega
theorem srt_le_take : ∀ (l : List Int) (k : Nat) (hk : k < l.length), Srt l → l.filter (fun x => decide (x ≤ l[k])) = l.take (k + 1) := by
  intro l
  induction l with
  | nil => intro k hk; simp at hk
  | cons a l ih =>
    intro k hk h
    obtain ⟨h1, h2⟩ := List.pairwise_cons.mp h
    cases k with
    | zero =>
      have e : l.filter (fun x => decide (x ≤ a)) = [] := List.filter_eq_nil_iff.mpr (fun x hx => by have := h1 x hx; simp; omega)
      simp [e]
    | succ k =>
      have hk' : k < l.length := by simpa using hk
      have ha : a ≤ l[k] := by have := h1 l[k] (List.getElem_mem hk'); omega
      have e : (a :: l)[k + 1] = l[k] := rfl
      simp only [e, List.filter_cons, decide_eq_true ha, if_true, List.take_succ_cons]
      rw [ih k hk' h2]
theorem srt_lower : ∀ (l : List Int) (k : Nat) (x y : Int), Srt l → x ∈ l → y ∈ l.take k → x < y → x ∈ l.take k := by
  intro l
  induction l with
  | nil => intro k x y _ hx; simp at hx
  | cons a l ih =>
    intro k x y h hx hy hxy
    obtain ⟨h1, h2⟩ := List.pairwise_cons.mp h
    cases k with
    | zero => simp at hy
    | succ k =>
      rw [List.take_succ_cons] at hy ⊢
      rcases List.mem_cons.mp hx with e | hx2
      · rw [e]; exact List.mem_cons_self
      · rcases List.mem_cons.mp hy with e | hy2
        · have := h1 x hx2; omega
        · exact List.mem_cons_of_mem _ (ih k x y h2 hx2 hy2 hxy)
def okB (upt u t : Int) : Bool := decide (t < upt) && (u == -1 || decide (t ≤ u))
def cutC (c n : Int) (l : List Int) : List Int := if 0 < c then l.take (c - n).toNat else l
theorem okB_lower {upt u s t : Int} (h : okB upt u t = true) (hs : s < t) : okB upt u s = true := by
  unfold okB at h ⊢
  simp only [Bool.and_eq_true, Bool.or_eq_true, beq_iff_eq, decide_eq_true_eq] at h ⊢
  omega
theorem expGo_closed (first frm upt c u most : Int) (hm : 0 ≤ most) : ∀ (ds out : List Int) (n : Int), Srt (ds.map (tmS first)) → 0 ≤ n → (out.length : Int) ≤ most →
    expGo first frm upt c u most ds out n = out ++ (((cutC c n ((ds.map (tmS first)).filter (okB upt u))).filter (fun x => decide (frm ≤ x))).take (most.toNat - out.length)) := by
  intro ds
  induction ds with
  | nil => intro out n _ _ _; simp [expGo, cutC]
  | cons d ds ih =>
    intro out n hs hn ho
    obtain ⟨h1, h2⟩ := List.pairwise_cons.mp (by simpa using hs : Srt (tmS first d :: ds.map (tmS first)))
    simp only [expGo]
    by_cases hok : okB upt u (tmS first d) = true
    · by_cases hc : 0 < c ∧ c ≤ n
      · have hst : stopB c u upt most (tmS first d) (n + 1) out.length = true := by
          unfold stopB; rw [decide_eq_true hc.1, decide_eq_true (show c < n + 1 by omega)]; simp
        rw [if_pos hst]
        unfold cutC
        rw [if_pos hc.1, show (c - n).toNat = 0 by omega]
        simp
      · by_cases hl : (out.length : Int) = most
        · have hst : stopB c u upt most (tmS first d) (n + 1) out.length = true := by
            unfold stopB; rw [beq_iff_eq.mpr hl]; simp
          rw [if_pos hst, show most.toNat - out.length = 0 by omega]
          simp
        · have hst : stopB c u upt most (tmS first d) (n + 1) out.length = false := by
            unfold okB at hok
            simp only [Bool.and_eq_true, Bool.or_eq_true, beq_iff_eq, decide_eq_true_eq] at hok
            unfold stopB
            rw [decide_eq_false (show ¬ upt ≤ tmS first d by omega), beq_eq_false_iff_ne.mpr hl, Bool.false_or, Bool.or_false]
            rw [Bool.or_eq_false_iff]
            constructor
            · rw [Bool.and_eq_false_iff]
              by_cases h0 : 0 < c
              · right; exact decide_eq_false (by omega)
              · left; exact decide_eq_false h0
            · rw [Bool.and_eq_false_iff]
              rcases hok.2 with h | h
              · left; rw [h]; rfl
              · right; exact decide_eq_false (by omega)
          rw [if_neg (by rw [hst]; decide)]
          have hcut : cutC c n (tmS first d :: (ds.map (tmS first)).filter (okB upt u)) = tmS first d :: cutC c (n + 1) ((ds.map (tmS first)).filter (okB upt u)) := by
            unfold cutC
            by_cases h0 : 0 < c
            · rw [if_pos h0, if_pos h0, show (c - n).toNat = (c - (n + 1)).toNat + 1 by omega, List.take_succ_cons]
            · rw [if_neg h0, if_neg h0]
          rw [List.map_cons, List.filter_cons, if_pos hok, hcut]
          by_cases hf : frm ≤ tmS first d
          · rw [if_pos hf, ih _ _ h2 (by omega) (by simp; omega), List.filter_cons, if_pos (decide_eq_true hf), show most.toNat - out.length = (most.toNat - (out ++ [tmS first d]).length) + 1 by simp; omega, List.take_succ_cons]
            simp
          · rw [if_neg hf, ih _ _ h2 (by omega) ho, List.filter_cons, if_neg (by simpa using hf)]
    · have hst : stopB c u upt most (tmS first d) (n + 1) out.length = true := by
        unfold okB at hok
        simp only [Bool.and_eq_true, Bool.or_eq_true, beq_iff_eq, decide_eq_true_eq] at hok
        unfold stopB
        by_cases hu : upt ≤ tmS first d
        · rw [decide_eq_true hu]; simp
        · have h' : u ≠ -1 ∧ u < tmS first d := by omega
          rw [bne_iff_ne.mpr h'.1, decide_eq_true h'.2]; simp
      rw [if_pos hst]
      have e : ((d :: ds).map (tmS first)).filter (okB upt u) = [] := List.filter_eq_nil_iff.mpr (fun x hx => by
        rw [List.map_cons] at hx
        rcases List.mem_cons.mp hx with rfl | hx
        · exact hok
        · exact fun hx' => hok (okB_lower hx' (h1 x hx)))
      rw [e]
      unfold cutC
      split <;> simp
theorem daysF_lim (hit : Int → Bool) (lim B : Int) (hB : lim ≤ B) : ∀ (n : Nat) (d : Int), (B + 1 - d).toNat ≤ n → daysF hit 1 lim d = (daysF hit 1 B d).filter (fun x => decide (x ≤ lim)) := by
  intro n
  induction n with
  | zero => intro d hd; rw [daysF_over _ _ _ _ (by omega), daysF_over _ _ _ _ (by omega)]; rfl
  | succ n ih =>
    intro d hd
    by_cases h1 : d ≤ B
    · by_cases h2 : d ≤ lim
      · cases hh : hit d with
        | true => rw [daysF_hit _ _ _ _ (Int.le_refl _) h2 hh, daysF_hit _ _ _ _ (Int.le_refl _) h1 hh, List.filter_cons, if_pos (decide_eq_true h2), ih (d + 1) (by omega)]
        | false => rw [daysF_miss _ _ _ _ (Int.le_refl _) h2 hh, daysF_miss _ _ _ _ (Int.le_refl _) h1 hh, ih (d + 1) (by omega)]
      · rw [daysF_over _ _ _ _ (by omega)]
        symm
        exact List.filter_eq_nil_iff.mpr (fun x hx => by have := (daysF_ge hit 1 B d (Int.le_refl _) x hx).1; simp; omega)
    · rw [daysF_over _ _ _ _ (by omega), daysF_over _ _ _ _ (by omega)]; rfl
theorem daysF_srt (hit : Int → Bool) (B : Int) : ∀ (n : Nat) (d : Int), (B + 1 - d).toNat ≤ n → Srt (daysF hit 1 B d) := by
  intro n
  induction n with
  | zero => intro d hd; rw [daysF_over _ _ _ _ (by omega)]; exact List.Pairwise.nil
  | succ n ih =>
    intro d hd
    by_cases h1 : d ≤ B
    · cases hh : hit d with
      | true =>
        rw [daysF_hit _ _ _ _ (Int.le_refl _) h1 hh]
        exact List.pairwise_cons.mpr ⟨fun x hx => by have := (daysF_ge hit 1 B (d + 1) (Int.le_refl _) x hx).1; omega, ih _ (by omega)⟩
      | false => rw [daysF_miss _ _ _ _ (Int.le_refl _) h1 hh]; exact ih _ (by omega)
    · rw [daysF_over _ _ _ _ (by omega)]; exact List.Pairwise.nil
theorem daysF_mem (hit : Int → Bool) (B : Int) : ∀ (n : Nat) (d x : Int), (B + 1 - d).toNat ≤ n → d ≤ x → x ≤ B → hit x = true → x ∈ daysF hit 1 B d := by
  intro n
  induction n with
  | zero => intro d x hd h1 h2 _; omega
  | succ n ih =>
    intro d x hd h1 h2 hx
    by_cases e : x = d
    · subst e; rw [daysF_hit _ _ _ _ (Int.le_refl _) h2 hx]; exact List.mem_cons_self
    · cases hh : hit d with
      | true => rw [daysF_hit _ _ _ _ (Int.le_refl _) (by omega) hh]; exact List.mem_cons_of_mem _ (ih _ _ (by omega) (by omega) h2 hx)
      | false => rw [daysF_miss _ _ _ _ (Int.le_refl _) (by omega) hh]; exact ih _ _ (by omega) (by omega) h2 hx
noncomputable def allT (a0 a1 : Int) (l4 l5 : List Int) (l6 : List S59) (first : Int) : List Int := (hitsV a0 a1 l4 l5 l6 (first / 86400) 2932896).map (fun d => d * 86400 + first % 86400)
theorem allT_srt (a0 a1 : Int) (l4 l5 : List Int) (l6 : List S59) (first : Int) : Srt (allT a0 a1 l4 l5 l6 first) := by
  unfold allT hitsV
  rw [Srt, List.pairwise_map]
  exact (daysF_srt _ _ _ _ (Nat.le_refl _)).imp (fun h => by omega)
theorem allT_mem {a0 a1 : Int} {l4 l5 : List Int} {l6 : List S59} {first t : Int} : t ∈ allT a0 a1 l4 l5 l6 first ↔ ∃ d, first / 86400 ≤ d ∧ d ≤ 2932896 ∧ hitV a0 a1 l4 l5 l6 (first / 86400) d = true ∧ t = d * 86400 + first % 86400 := by
  unfold allT hitsV
  rw [List.mem_map]
  constructor
  · rintro ⟨d, hd, rfl⟩
    obtain ⟨h1, h2, h3⟩ := daysF_ge _ 1 _ _ (Int.le_refl _) d hd
    exact ⟨d, h1, h2, h3, rfl⟩
  · rintro ⟨d, h1, h2, h3, rfl⟩
    exact ⟨d, daysF_mem _ _ _ _ _ (Nat.le_refl _) h1 h2 h3, rfl⟩
theorem expE_zero {b : Bool} {first frm upt most : Int} (h : expE b first frm upt most = 0) : b = true ∧ timeP first ∧ timeP frm ∧ timeP upt ∧ upt - first ≤ 631152000 ∧ 1 ≤ most ∧ most ≤ 1000 := by
  unfold expE at h
  split at h
  · cases h
  · rename_i hb
    split at h
    · cases h
    · rename_i hn
      split at h
      · cases h
      · rename_i hm
        refine ⟨by simpa using hb, ?_, ?_, ?_, by omega, by omega, by omega⟩
        · rw [← timeP_S]; cases ht : timeS first with | true => rfl | false => exact absurd (.inl ht) hn
        · rw [← timeP_S]; cases ht : timeS frm with | true => rfl | false => exact absurd (.inr (.inl ht)) hn
        · rw [← timeP_S]; cases ht : timeS upt with | true => rfl | false => exact absurd (.inr (.inr ht)) hn
theorem expV_closed {b : Bool} {a0 a1 a2 a3 : Int} {l4 l5 : List Int} {l6 : List S59} {first frm upt most : Int} (h : expE b first frm upt most = 0) :
    expV b a0 a1 a2 a3 l4 l5 l6 first frm upt most = ((cutC a2 0 ((allT a0 a1 l4 l5 l6 first).filter (okB upt a3))).filter (fun x => decide (frm ≤ x))).take most.toNat := by
  obtain ⟨-, ⟨f0, f1⟩, -, ⟨u0, u1⟩, -, m0, m1⟩ := expE_zero h
  unfold expV
  rw [if_pos h]
  have hmap : (hitsV a0 a1 l4 l5 l6 (first / 86400) (upt / 86400)).map (tmS first) = (hitsV a0 a1 l4 l5 l6 (first / 86400) (upt / 86400)).map (fun d => d * 86400 + first % 86400) := by
    refine List.map_congr_left (fun d hd => ?_)
    obtain ⟨h1, h2, _⟩ := daysF_ge _ 1 _ _ (Int.le_refl _) d hd
    exact tmS_eq first d (by omega) (by omega)
  have hsrt : Srt ((hitsV a0 a1 l4 l5 l6 (first / 86400) (upt / 86400)).map (tmS first)) := by
    rw [hmap, Srt, List.pairwise_map]
    exact (daysF_srt _ _ _ _ (Nat.le_refl _)).imp (fun h => by omega)
  rw [expGo_closed first frm upt a2 a3 most (by omega) _ [] 0 hsrt (Int.le_refl _) (by simp; omega), hmap]
  simp only [List.nil_append, List.length_nil, Nat.sub_zero]
  have hfil : ((hitsV a0 a1 l4 l5 l6 (first / 86400) (upt / 86400)).map (fun d => d * 86400 + first % 86400)).filter (okB upt a3) = (allT a0 a1 l4 l5 l6 first).filter (okB upt a3) := by
    unfold allT hitsV
    rw [daysF_lim _ (upt / 86400) 2932896 (by omega) _ _ (Nat.le_refl _), List.filter_map, List.filter_map, List.filter_filter]
    congr 1
    refine List.filter_congr (fun d hd => ?_)
    by_cases hd' : d ≤ upt / 86400
    · simp [hd']
    · have : okB upt a3 (d * 86400 + first % 86400) = false := by
        unfold okB; rw [decide_eq_false (by omega)]; rfl
      simp [this]
  rw [hfil]
end Go.Proofs.YtfbmjonhohebiaaGreatDoor
end
