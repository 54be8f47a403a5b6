-- Written for this claim by this session's own program (wip/pp).
import Derived.Test.YtdgegoefehmfmaaQIntegerSolvesx0
import Derived.Test.YtdgegoefehmfmaaQIntegerSolvesx1
import Derived.Test.YtdgegoefehmfmaaQIntegerSolvesx5
import Derived.Test.YtdgegoefehmfmaaQIntegerSolvesx9
import Derived.Test.YtdgegoefehmfmaaQIntegerSolvesx10
namespace Go.Proofs.Ytdgegoefehmfmaa.QIntegerSolves
open Go.RowKit Go.Proofs.YtdgegoefehmfmaaW.PrintWords Go.Proofs.YtdgegoefehmfmaaW.PrintLast Go.Proofs.YtdgegoefehmfmaaW.PrintMore
attribute [local go_sem] max2_int min2_int max_two min_two max_three min_three max_four min_four   -- for this text's walks alone
set_option linter.unusedVariables false
set_option linter.unusedSimpArgs false

attribute [local go_sem high] eqA109
/-! ### timeboundref33_Solve: function 23 -/
/-- The columns from some columns on, in the order of lists. -/
def fromG : List Int → List Int → List (List Int)
  | m :: ms, a :: a2 => ((fromG ms a2).map fun y => a :: y) ++ (List.range (m - a).toNat).flatMap fun (j : Nat) => (grid ms).map fun y => (a + 1 + (j : Int)) :: y
  | _, _ => [[]]
theorem fromG_zeros (most : List Int) (h : ∀ m ∈ most, 0 ≤ m) : fromG most (List.replicate most.length 0) = grid most := by
  induction most with
  | nil => rfl
  | cons m ms ih =>
    rw [List.length_cons, List.replicate_succ, fromG, grid, ih (fun x hx => h x (List.mem_cons_of_mem _ hx))]
    have hm := h m List.mem_cons_self
    rw [show (m + 1).toNat = (m - 0).toNat + 1 by omega, List.range_succ_eq_map, List.flatMap_cons]
    congr 1
    rw [List.flatMap_map]
    congr 1
    funext j
    congr 1
    funext y
    congr 1
    omega
theorem fromG_self (most : List Int) : fromG most most = [most] := by
  induction most with
  | nil => rfl
  | cons m ms ih => rw [fromG, ih]; simp
theorem fromG_next (t : List Int) (ht : ∀ m ∈ t, 0 ≤ m) (a b : Int) (hab : a < b) : ∀ (p q : List Int), p.length = q.length →
    fromG (q ++ b :: t) (p ++ a :: t) = (p ++ a :: t) :: fromG (q ++ b :: t) (p ++ (a + 1) :: List.replicate t.length 0) := by
  intro p
  induction p with
  | nil =>
    intro q hq
    obtain rfl : q = [] := List.eq_nil_of_length_eq_zero hq.symm
    rw [List.nil_append, List.nil_append, List.nil_append, fromG, fromG, fromG_self, fromG_zeros t ht]
    rw [show (b - a).toNat = (b - (a + 1)).toNat + 1 by omega, List.range_succ_eq_map, List.flatMap_cons, List.flatMap_map]
    simp only [List.map_cons, List.map_nil, List.cons_append, List.nil_append]
    congr 1
    rw [show (fun y => (a + 1 + ((0 : Nat) : Int)) :: y) = (fun y : List Int => (a + 1) :: y) from funext fun y => by simp]
    congr 1
    congr 1
    funext j
    congr 1
    funext y
    congr 1
    omega
  | cons x p ih =>
    intro q hq
    cases q with
    | nil => simp at hq
    | cons z q =>
      simp only [List.cons_append]
      rw [fromG, fromG, ih q (by simpa using hq)]
      rfl
def valR (k : Nat) (n : Int) (rows : List S96) (goal : List S109) (const : Int) (y : List Int) : Int × Bool := (timeboundref33_Value.f k n rows goal const y).getD (0, false)
def solveR (k : Nat) (n : Int) (rows : List S96) (goal : List S109) (const : Int) (most : List Int) : Int × Bool × List Int := (grid most).foldl (stepV (valR k n rows goal const)) (0, false, [])
def solveROk (k : Nat) (n : Int) (rows : List S96) (goal : List S109) (const : Int) (most : List Int) : Bool :=
  ((grid most).all fun y => (timeboundref33_Value.f k n rows goal const y).isSome) && decide (most.length ≤ 1000) && (most.all fun m => decide (0 ≤ m) && decide (m ≤ 1048576))
def timeboundref33_Solve.f (k : Nat) (n : Int) (rows : List S96) (goal : List S109) (const : Int) (most : List Int) : Option (Int × List Int × Int) :=
  (timeboundref33_Boxed.f k n rows goal const most).bind fun b =>
    if b.2.2.2.2 = 0 then
      if n = (most.length : Int) ∧ solveROk k b.1 b.2.1 b.2.2.1 b.2.2.2.1 most = true then
        if (solveR k b.1 b.2.1 b.2.2.1 b.2.2.2.1 most).2.1 = true then some ((solveR k b.1 b.2.1 b.2.2.1 b.2.2.2.1 most).1, (solveR k b.1 b.2.1 b.2.2.1 b.2.2.2.1 most).2.2, 0) else some (0, [], 34)
      else none
    else some (0, [], b.2.2.2.2)
/-- What holds at the head of the search. -/
structure Od (Wb W : World) (AG : Option Addr) (cG : Nat) (most : List Int) (V : List Int → Int × Bool) (fin : Int × Bool × List Int) (s : Int × Bool × List Int) (x : List Int) (u : Value) : Prop where
  len : x.length = most.length
  inb : ∀ t, t < most.length → 0 ≤ x.getD t 0 ∧ x.getD t 0 ≤ most.getD t 0
  fold : (fromG most x).foldl (stepV V) s = fin
  mem : ∀ y ∈ fromG most x, y ∈ grid most
  B : Below Wb.heap.size Wb W
  X : Kd.R (Kd.int .i64) 3 W Wb.heap.size (fun _ => True) (.slice AG most.length cG) x
  U : Kd.R (Kd.int .i64) 3 W Wb.heap.size (fun k_ => some k_ ≠ (Value.slice AG most.length cG).ownBlock) u s.2.2
theorem fromG_ne (most x : List Int) : 0 < (fromG most x).length := by
  induction most generalizing x with
  | nil => cases x <;> simp [fromG]
  | cons m ms ih =>
    cases x with
    | nil => simp [fromG]
    | cons a a2 => rw [fromG, List.length_append, List.length_map]; have := ih a2; omega
/-- Behind the value of x: the same, a step further; the columns behind the first m are at their greatest, and have been set to 0. -/
structure Oi (Wb W : World) (AG : Option Addr) (cG : Nat) (most : List Int) (V : List Int → Int × Bool) (fin : Int × Bool × List Int) (s : Int × Bool × List Int) (x : List Int) (u : Value) (m : Nat) : Prop where
  len : x.length = most.length
  le : m ≤ most.length
  inb : ∀ t, t < most.length → 0 ≤ x.getD t 0 ∧ x.getD t 0 ≤ most.getD t 0
  tail : x.drop m = most.drop m
  fold : (fromG most x).tail.foldl (stepV V) s = fin
  mem : ∀ y ∈ fromG most x, y ∈ grid most
  B : Below Wb.heap.size Wb W
  X : Kd.R (Kd.int .i64) 3 W Wb.heap.size (fun _ => True) (.slice AG most.length cG) (x.take m ++ List.replicate (most.length - m) 0)
  U : Kd.R (Kd.int .i64) 3 W Wb.heap.size (fun k_ => some k_ ≠ (Value.slice AG most.length cG).ownBlock) u s.2.2
theorem fromG_head (most : List Int) : ∀ x : List Int, x.length = most.length → fromG most x = x :: (fromG most x).tail := by
  induction most with
  | nil => intro x hx; obtain rfl := List.eq_nil_of_length_eq_zero hx; rfl
  | cons m ms ih =>
    intro x hx
    cases x with
    | nil => simp at hx
    | cons a a2 =>
      have := ih a2 (by simpa using hx)
      rw [fromG, this]
      rfl
theorem Oi.cellm {Wb W : World} {G cG m : Nat} {AG : Option Addr} {most : List Int} {V : List Int → Int × Bool} {fin s : Int × Bool × List Int} {x : List Int} {u : Value} (h : Oi Wb W AG cG most V fin s x u (m + 1)) (hA : AG = some ⟨G, 0, none⟩) :
    W.cell? ⟨G, m, none⟩ = some (.int .i64 (x.getD m 0)) ∧ W.frozen? ⟨G, m, none⟩ = false := by
  subst hA
  have h1 := h.le
  have h2 := Kd.R_celln 0 h.X (m : Int) (by omega) (by omega)
  have h3 : rdOf 0 (x.take (m + 1) ++ List.replicate (most.length - (m + 1)) 0) (m : Int) = x.getD m 0 := by
    have := h.len
    simp only [rdOf, Int.toNat_natCast, List.getD_eq_getElem?_getD]
    rw [List.getElem?_append_left (by simp; omega), List.getElem?_take_of_lt (by omega)]
  rw [h3] at h2
  simpa using h2
theorem Oi.down {Wb W : World} {G cG m : Nat} {AG : Option Addr} {most : List Int} {V : List Int → Int × Bool} {fin s : Int × Bool × List Int} {x : List Int} {u : Value} (h : Oi Wb W AG cG most V fin s x u (m + 1)) (hA : AG = some ⟨G, 0, none⟩) (hG : Wb.heap.size ≤ G) (he : x.getD m 0 = most.getD m 0) :
    Oi Wb (W.setCell ⟨G, m, none⟩ (.int .i64 0)) AG cG most V fin s x u m := by
  subst hA
  have h1 := h.le
  have hl := h.len
  refine ⟨h.len, by omega, h.inb, ?_, h.fold, h.mem, h.B.setCell hG _, ?_, ?_⟩
  · rw [List.drop_eq_getElem_cons (show m < x.length by omega), List.drop_eq_getElem_cons (show m < most.length by omega), h.tail]
    congr 1
    simpa [List.getD_eq_getElem?_getD, show m < x.length by omega, show m < most.length by omega] using he
  · have := Kd.R_putn h.X (m : Int) 0
    rw [Int.toNat_natCast] at this
    have e : (x.take (m + 1) ++ List.replicate (most.length - (m + 1)) (0 : Int)).set m 0 = x.take m ++ List.replicate (most.length - m) 0 := by
      rw [List.set_append, if_pos (by simp; omega), List.take_succ_eq_append_getElem (show m < x.length by omega), List.set_append, if_neg (by simp; omega), List.length_take, show m - min m x.length = 0 by omega, List.set_cons_zero, show most.length - m = (most.length - (m + 1)) + 1 by omega, List.replicate_succ, List.append_assoc]
      rfl
    rw [e] at this
    exact this
  · exact Kd.R_far h.U (p := ⟨G, m, none⟩) (fun k hk e => hk (by rw [e]; rfl)) _
theorem Oi.next {Wb W : World} {G cG m : Nat} {AG : Option Addr} {most : List Int} {V : List Int → Int × Bool} {fin s : Int × Bool × List Int} {x : List Int} {u : Value} (h : Oi Wb W AG cG most V fin s x u (m + 1)) (hA : AG = some ⟨G, 0, none⟩) (hG : Wb.heap.size ≤ G) (hm : ∀ b ∈ most, 0 ≤ b) (he : x.getD m 0 ≠ most.getD m 0) :
    Od Wb (W.setCell ⟨G, m, none⟩ (.int .i64 (x.getD m 0 + 1))) AG cG most V fin s (x.take m ++ (x.getD m 0 + 1) :: List.replicate (most.length - (m + 1)) 0) u ∧ (fromG most (x.take m ++ (x.getD m 0 + 1) :: List.replicate (most.length - (m + 1)) 0)).length < (fromG most x).length := by
  subst hA
  have h1 := h.le
  have hl := h.len
  have hi := h.inb m (by omega)
  have ex : x = x.take m ++ x.getD m 0 :: x.drop (m + 1) := by
    conv => lhs; rw [← List.take_append_drop m x, List.drop_eq_getElem_cons (show m < x.length by omega)]
    simp [List.getD_eq_getElem?_getD, show m < x.length by omega]
  have em : most = most.take m ++ most.getD m 0 :: most.drop (m + 1) := by
    conv => lhs; rw [← List.take_append_drop m most, List.drop_eq_getElem_cons (show m < most.length by omega)]
    simp [List.getD_eq_getElem?_getD, show m < most.length by omega]
  have hlt : x.getD m 0 < most.getD m 0 := by omega
  have hf : fromG most x = x :: fromG most (x.take m ++ (x.getD m 0 + 1) :: List.replicate (most.length - (m + 1)) 0) := by
    have := fromG_next (most.drop (m + 1)) (fun b hb => hm b (List.mem_of_mem_drop hb)) (x.getD m 0) (most.getD m 0) hlt (x.take m) (most.take m) (by simp; omega)
    rw [← em, ← h.tail, ← ex, h.tail, List.length_drop] at this
    exact this
  have hfo := h.fold
  have hme := h.mem
  rw [hf] at hfo hme
  refine ⟨⟨by simp; omega, ?_, hfo, fun y hy => hme y (List.mem_cons_of_mem _ hy), h.B.setCell hG _, ?_, ?_⟩, by rw [hf]; simp⟩
  · intro t ht
    have hb := hm
    have hmt : 0 ≤ most.getD t 0 := by
      rw [List.getD_eq_getElem?_getD, List.getElem?_eq_getElem ht]
      exact hm _ (List.getElem_mem ht)
    rcases Nat.lt_trichotomy t m with c | rfl | c
    · have := h.inb t ht
      rw [List.getD_eq_getElem?_getD, List.getElem?_append_left (by simp; omega), List.getElem?_take_of_lt c, ← List.getD_eq_getElem?_getD]
      exact this
    · rw [List.getD_eq_getElem?_getD, List.getElem?_append_right (by simp; omega), List.length_take, show t - min t x.length = 0 by omega]
      simp only [List.getElem?_cons_zero, Option.getD_some]
      omega
    · rw [List.getD_eq_getElem?_getD, List.getElem?_append_right (by simp; omega), List.length_take, show t - min m x.length = (t - m - 1) + 1 by omega, List.getElem?_cons_succ, List.getElem?_replicate]
      split <;> exact ⟨Int.le_refl _, hmt⟩
  · have := Kd.R_putn h.X (m : Int) (x.getD m 0 + 1)
    rw [Int.toNat_natCast] at this
    have e : (x.take (m + 1) ++ List.replicate (most.length - (m + 1)) (0 : Int)).set m (x.getD m 0 + 1) = x.take m ++ (x.getD m 0 + 1) :: List.replicate (most.length - (m + 1)) 0 := by
      rw [List.set_append, if_pos (by simp; omega), List.take_succ_eq_append_getElem (show m < x.length by omega), List.set_append, if_neg (by simp; omega), List.length_take, show m - min m x.length = 0 by omega, List.set_cons_zero, List.append_assoc]
      rfl
    rw [e] at this
    exact this
  · exact Kd.R_far h.U (p := ⟨G, m, none⟩) (fun k hk e => hk (by rw [e]; rfl)) _
theorem Oi.done {Wb W : World} {cG : Nat} {AG : Option Addr} {most : List Int} {V : List Int → Int × Bool} {fin s : Int × Bool × List Int} {x : List Int} {u : Value} (h : Oi Wb W AG cG most V fin s x u 0) : s = fin := by
  have e := h.tail
  rw [List.drop_zero, List.drop_zero] at e
  have := h.fold
  rw [e, fromG_self] at this
  exact this
theorem Oi.drewN {Wb W : World} {cG m : Nat} {AG : Option Addr} {most : List Int} {V : List Int → Int × Bool} {fin s : Int × Bool × List Int} {x : List Int} {u : Value} (h : Oi Wb W AG cG most V fin s x u m) (q : Nat) : Oi Wb (W.drewN q) AG cG most V fin s x u m :=
  ⟨h.len, h.le, h.inb, h.tail, h.fold, h.mem, pw_below_drewN h.B q, Kd.R_drewN h.X q, Kd.R_drewN h.U q⟩
theorem Od.below {Wb W W' : World} {cG : Nat} {AG : Option Addr} {most : List Int} {V : List Int → Int × Bool} {fin s : Int × Bool × List Int} {x : List Int} {u : Value} (h : Od Wb W AG cG most V fin s x u) (hb : Below W.heap.size W W') : Od Wb W' AG cG most V fin s x u :=
  ⟨h.len, h.inb, h.fold, h.mem, below_step h.B hb, Kd.R_below h.X hb, Kd.R_below h.U hb⟩
/-- The step at x: what was best stays, or x is. -/
theorem Od.step {Wb W W' : World} {cG : Nat} {AG : Option Addr} {most : List Int} {V : List Int → Int × Bool} {fin s s' : Int × Bool × List Int} {x : List Int} {u u' : Value} (h : Od Wb W AG cG most V fin s x u) (hb : Below W.heap.size W W') (hs : stepV V s x = s') (hu : Kd.R (Kd.int .i64) 3 W' Wb.heap.size (fun k_ => some k_ ≠ (Value.slice AG most.length cG).ownBlock) u' s'.2.2) :
    Oi Wb W' AG cG most V fin s' x u' most.length := by
  have hf := h.fold
  rw [fromG_head most x h.len, List.foldl_cons, hs] at hf
  refine ⟨h.len, Nat.le_refl _, h.inb, by rw [List.drop_of_length_le (by rw [h.len]; exact Nat.le_refl _), List.drop_of_length_le (Nat.le_refl _)], hf, h.mem, below_step h.B hb, ?_, hu⟩
  rw [Nat.sub_self, List.replicate_zero, List.append_nil, ← h.len, List.take_length, h.len]
  exact Kd.R_below h.X hb
theorem valR_mono (k : Nat) (n : Int) (rows : List S96) (goal : List S109) (const : Int) (y : List Int) (h : (timeboundref33_Value.f k n rows goal const y).isSome = true) : timeboundref33_Value.f (k + 1) n rows goal const y = timeboundref33_Value.f k n rows goal const y := by
  obtain ⟨r, hr⟩ := Option.isSome_iff_exists.1 h
  rw [hr]
  exact timeboundref33_Value.mono _ _ _ _ _ k r hr
theorem solveR_mono (k : Nat) (n : Int) (rows : List S96) (goal : List S109) (const : Int) (most : List Int) (h : solveROk k n rows goal const most = true) :
    solveROk (k + 1) n rows goal const most = true ∧ solveR (k + 1) n rows goal const most = solveR k n rows goal const most := by
  simp only [solveROk, Bool.and_eq_true] at h ⊢
  obtain ⟨⟨h1, h3⟩, h4⟩ := h
  have h5 := List.all_eq_true.1 h1
  refine ⟨⟨⟨List.all_eq_true.2 fun y hy => by rw [valR_mono k n rows goal const y (h5 y hy)]; exact h5 y hy, h3⟩, h4⟩, ?_⟩
  unfold solveR
  have : ∀ (l : List (List Int)), (∀ y ∈ l, (timeboundref33_Value.f k n rows goal const y).isSome = true) → ∀ s, l.foldl (stepV (valR (k + 1) n rows goal const)) s = l.foldl (stepV (valR k n rows goal const)) s := by
    intro l
    induction l with
    | nil => intro _ s; rfl
    | cons a l ih =>
      intro hl s
      rw [List.foldl_cons, List.foldl_cons, ih (fun y hy => hl y (List.mem_cons_of_mem _ hy))]
      congr 1
      unfold stepV valR
      rw [valR_mono k n rows goal const a (hl a List.mem_cons_self)]
  exact this _ h5 _
theorem timeboundref33_Solve.mono : ∀ a0 a1 a2 a3 a4 k, LeO (timeboundref33_Solve.f k a0 a1 a2 a3 a4) (timeboundref33_Solve.f (k + 1) a0 a1 a2 a3 a4) := by
  intro a0 a1 a2 a3 a4 k r h
  unfold timeboundref33_Solve.f at h ⊢
  obtain ⟨b, hb, h⟩ := Option.bind_eq_some_iff.1 h
  rw [timeboundref33_Boxed.mono _ _ _ _ _ k b hb]
  simp only [Option.bind_some]
  split at h
  · split at h
    · rename_i h1 h2
      obtain ⟨h3, h4⟩ := solveR_mono k _ _ _ _ _ h2.2
      rw [if_pos h1, if_pos ⟨h2.1, h3⟩, h4]
      exact h
    · cases h
  · rename_i h1
    rw [if_neg h1]
    exact h
set_option maxHeartbeats 4000000 in
set_option maxRecDepth 100000 in
theorem timeboundref33_Solve.calls (k : Nat) (a0_0 : Int) (A0_1 : Option Addr) (c0_1 : Nat) (l0_1 : List (S96)) (A0_2 : Option Addr) (c0_2 : Nat) (l0_2 : List (S109)) (a0_3 : Int) (A1 : Option Addr) (c1 : Nat) (l1 : List Int) (r1 : Int) (r2 : List Int) (r3 : Int) (w : World) (hr0_1 : Kd.C k96 w A0_1 l0_1.length l0_1) (hc0_1 : l0_1.length ≤ c0_1) (hr0_2 : Kd.C k109 w A0_2 l0_2.length l0_2) (hc0_2 : l0_2.length ≤ c0_2) (hr1 : Kd.C (Kd.int .i64) w A1 l1.length l1) (hc1 : l1.length ≤ c1) (h : timeboundref33_Solve.f k a0_0 l0_1 l0_2 a0_3 l1 = some (r1, r2, r3)) :
    Calls Try.prog 23 #[.agg #[.int .i64 a0_0, .slice A0_1 l0_1.length c0_1, .slice A0_2 l0_2.length c0_2, .int .i64 a0_3], .slice A1 l1.length c1] w fun e w' => ∃ v1_ : Value, e = .returned (.tuple #[.int .i64 r1, v1_, .int .i64 r3]) ∧ Kd.R (Kd.int .i64) 3 w' w.heap.size (fun _ => True) v1_ r2 ∧ Below w.heap.size w w' := by
  unfold timeboundref33_Solve.f at h
  replace h := Option.bind_eq_some_iff.1 h
  obtain ⟨⟨b1, b2, b3, b4, b5⟩, hb, h⟩ := h
  have hu29 := Try.underlying29
  have HX := Aside0.mk (fun V (hv : Below w.heap.size w V) => timeboundref33_Boxed.calls k a0_0 A0_1 c0_1 l0_1 A0_2 c0_2 l0_2 a0_3 A1 c1 l1 b1 b2 b3 b4 b5 V (Kd.C_below hr0_1 hv) hc0_1 (Kd.C_below hr0_2 hv) hc0_2 (Kd.C_below hr1 hv) hc1 hb)
  have HM := Aside0.mk hr1
  have HH := Aside0.mk h
  clear hr0_1 hr0_2 hr1 h hb
  go_enter Try.func23, Try.ntmps23
  go_wp2_with fail
  refine (HX.out _ (below_alloc (Below.refl _ _) _)).mono ?_
  rintro e w1 ⟨v1, v2, rfl, hS1, hR2, hb1⟩
  obtain ⟨A1', c1', rfl, hle1, hC1⟩ := Kd.S_reads hS1
  obtain ⟨A2', c2', rfl, hle2, hC2⟩ := Kd.R_reads hR2
  have HB := Aside0.mk (below_step (below_alloc (Below.refl _ _) _) hb1)
  have HC1 := Aside0.mk hC1
  have HC2 := Aside0.mk hC2
  have HP := Aside0.mk (blk_below (heap_alloc_last w (.cells #[.int .i64 a0_0, .slice A0_1 l0_1.length c0_1, .slice A0_2 l0_2.length c0_2, .int .i64 a0_3] 29 (0, 0))) hb1)
  clear hS1 hR2 hb1 hC1 hC2
  have H := HH.out
  clear HH
  by_cases c5 : b5 = 0
  · rw [if_pos c5] at H
    have d1 : (b5 != 0) = false := by simp [c5]
    by_cases ho : a0_0 = (l1.length : Int) ∧ solveROk k b1 b2 b3 b4 l1 = true
    · rw [if_pos ho] at H
      obtain ⟨ho0, hok⟩ := ho
      subst ho0
      simp only [solveROk, Bool.and_eq_true, decide_eq_true_eq] at hok
      obtain ⟨⟨ho1, ho3⟩, ho4⟩ := hok
      have HV := Aside0.mk (fun y (hy : y ∈ grid l1) => show timeboundref33_Value.f k b1 b2 b3 b4 y = some (valR k b1 b2 b3 b4 y) from by
        obtain ⟨r, hr⟩ := Option.isSome_iff_exists.1 (List.all_eq_true.1 ho1 y hy)
        rw [valR, hr]; rfl)
      have HMO := Aside0.mk (fun m (hm : m ∈ l1) => show 0 ≤ m ∧ m ≤ 1048576 from by have := List.all_eq_true.1 ho4 m hm; simpa using this)
      change (if (solveR k b1 b2 b3 b4 l1).2.1 = true then _ else _) = _ at H
      have HF := Aside0.mk (show (grid l1).foldl (stepV (valR k b1 b2 b3 b4)) (0, false, []) = solveR k b1 b2 b3 b4 l1 from rfl)
      generalize solveR k b1 b2 b3 b4 l1 = fin at *
      generalize valR k b1 b2 b3 b4 = V at *
      have HH := Aside0.mk H
      have hp0 : ∀ o, (w1.alloc o).cell? ⟨w.heap.size, 0, none⟩ = some (.int .i64 (l1.length : Int)) := fun o => (World.cell?_alloc_lt _ _ _ (blk_lt HP.out)).trans (blk_cell HP.out 0)
      clear H c5 ho1 ho4
      go_wp2_with ((with_reducible refine gate_dst (N := 27) rfl ?_); refine Kd.R_make (Kd.int .i64) _ 3 rfl (N := 27) rfl 22 _ _ rfl (l1.length : Int) rfl rfl Try.underlying22 (.int .i64 0) 8 info3 rfl (by decide) (by omega) 0 (ok := fun _ => True) (okp := fun _ => True) rfl (fun _ hk => hk) trivial (by omega) (by omega) (Below.refl _ _) (Nat.le_refl _) ?_; intro v1 w2 hu hb hg hv; rw [Int.toNat_natCast] at hu; obtain ⟨AG, cG, hv1⟩ := Kd.R_slice hu; rw [List.length_replicate] at hv1; subst hv1; obtain ⟨G, hown, hG1⟩ := hv; have HA := Aside0.mk (make_at hu hown); have HU := Aside0.mk hu; have HB1 := Aside0.mk hb; have HG := Aside0.mk hG1; clear hu hb hg hown hG1 hp0)
      have H7 := Aside0.mk (heap_alloc_last w1 (.cells #[.int .i64 b1, .slice A1' b2.length c1', .slice A2' b3.length c2', .int .i64 b4] 29 (0, 0)))
      have HPb := Aside0.mk (blk_alloc HP.out (.cells #[.int .i64 b1, .slice A1' b2.length c1', .slice A2' b3.length c2', .int .i64 b4] 29 (0, 0)))
      have HR1 := Aside0.mk (Kd.C_alloc HC1.out (.cells #[.int .i64 b1, .slice A1' b2.length c1', .slice A2' b3.length c2', .int .i64 b4] 29 (0, 0)))
      have HR2 := Aside0.mk (Kd.C_alloc HC2.out (.cells #[.int .i64 b1, .slice A1' b2.length c1', .slice A2' b3.length c2', .int .i64 b4] 29 (0, 0)))
      have HRm := Aside0.mk (Kd.C_alloc (Kd.C_below HM.out HB.out) (.cells #[.int .i64 b1, .slice A1' b2.length c1', .slice A2' b3.length c2', .int .i64 b4] 29 (0, 0)))
      have HBW := Aside0.mk (below_alloc HB.out (.cells #[.int .i64 b1, .slice A1' b2.length c1', .slice A2' b3.length c2', .int .i64 b4] 29 (0, 0)))
      clear HB HC1 HC2 HP HM HX
      generalize w1.alloc (.cells #[.int .i64 b1, .slice A1' b2.length c1', .slice A2' b3.length c2', .int .i64 b4] 29 (0, 0)) = Wb at *
      generalize w1.heap.size = b7 at *
      have HO := Aside0.mk (show Od Wb w2 AG cG l1 V fin (0, false, []) (List.replicate l1.length 0) (.slice none 0 0) from by
        have hz := fromG_zeros l1 (fun m hm => (HMO.out m hm).1)
        refine ⟨by simp, fun t ht => ?_, by rw [hz]; exact HF.out, fun y hy => by rw [hz] at hy; exact hy, HB1.out, HU.out, Kd.R_nil _ _ _ _ _⟩
        have := (HMO.out _ (List.getElem_mem ht)).1
        simp [List.getD_eq_getElem?_getD, ht, this])
      clear HU HB1 HF w1
      go_wp2_with fail
      go_loopg [10, 11, 12] ((fromG l1 (List.replicate l1.length 0)).length) (fun kq v10 v11 v12 wr => ∃ (s : Int × Bool × List Int) (x : List Int) (u : Value), v10 = .int .i64 s.1 ∧ v11 = .bool s.2.1 ∧ v12 = u ∧ Aside0 (Od Wb wr AG cG l1 V fin s x u) ∧ Aside0 ((fromG l1 x).length ≤ kq))
      case atStart => exact ⟨(0, false, []), _, _, rfl, rfl, rfl, HO, ⟨Nat.le_refl _⟩⟩
      case round =>
        clear HO w2
        obtain ⟨⟨best, found, at_⟩, x, u, rfl, rfl, rfl, HD, HK⟩ := hrel
        cases gk with
        | zero => exact absurd HK.out (by have := fromG_ne l1 x; omega)
        | succ k2 =>
        have HC := timeboundref33_Value.calls k b1 A1' c1' b2 A2' c2' b3 b4 AG cG x (V x).1 (V x).2 wr (Kd.C_below HR1.out HD.out.B) hle1 (Kd.C_below HR2.out HD.out.B) hle2 ((Kd.R_reads' HD.out.X).2.2) (by rw [HD.out.len]; exact (Kd.R_reads' HD.out.X).2.1) (HV.out x (HD.out.mem x (by rw [fromG_head l1 x HD.out.len]; exact List.mem_cons_self)))
        rw [HD.out.len] at HC
        have HC := Aside0.mk HC
        have c70 : wr.cell? ⟨b7, 0, none⟩ = some (.int .i64 b1) := blk_cell (blk_below H7.out HD.out.B) 0
        have c71 : wr.cell? ⟨b7, 1, none⟩ = some (.slice A1' b2.length c1') := blk_cell (blk_below H7.out HD.out.B) 1
        have c72 : wr.cell? ⟨b7, 2, none⟩ = some (.slice A2' b3.length c2') := blk_cell (blk_below H7.out HD.out.B) 2
        have c73 : wr.cell? ⟨b7, 3, none⟩ = some (.int .i64 b4) := blk_cell (blk_below H7.out HD.out.B) 3
        go_wp2_with fail
        refine HC.out.mono ?_
        rintro e w3 ⟨rfl, hb3⟩
        have HB3 := Aside0.mk hb3
        have HS := Aside0.mk (show stepV V (best, found, at_) x = if ((V x).2 && (!found || decide (best < (V x).1))) = true then ((V x).1, true, x) else (best, found, at_) from rfl)
        clear c70 c71 c72 c73 hb3 HC
        generalize (V x).1 = v at *
        generalize (V x).2 = ok at *
        go_upto_region 8 with (fail)
        go_cut [43] (fun v43 wc => ∃ b : Bool, v43 = .bool b ∧ Aside0 (stepV V (best, found, at_) x = if b = true then (v, true, x) else (best, found, at_)) ∧ Aside0 (wc = w3))
        case first =>
          cases ok with
          | false =>
            go_wp2_with fail
            go_meet
            case rel => exact ⟨_, rfl, HS, ⟨rfl⟩⟩
          | true =>
            cases found with
            | false =>
              go_wp2_with fail
              go_meet
              case rel => exact ⟨_, rfl, HS, ⟨rfl⟩⟩
            | true =>
              go_wp2_with fail
              go_meet
              case rel => exact ⟨_, rfl, HS, ⟨rfl⟩⟩
        case rest =>
        clear HS
        obtain ⟨b, rfl, HS, hw⟩ := hcut
        have hw := hw.out
        subst hw
        go_upto_if 43 with (fail)
        go_cut [10, 11, 12] (fun v10 v11 v12 wc => ∃ (s : Int × Bool × List Int) (u : Value), v10 = .int .i64 s.1 ∧ v11 = .bool s.2.1 ∧ v12 = u ∧ Aside0 (Oi Wb wc AG cG l1 V fin s x u l1.length))
        case first =>
          cases b with
          | false =>
            have HI := Aside0.mk (HD.out.step HB3.out (HS.out.trans (if_neg (by simp))) (Kd.R_below HD.out.U HB3.out))
            clear HS HD
            go_wp2_with fail
            go_meet
            case rel => exact ⟨_, _, rfl, rfl, rfl, HI⟩
          | true =>
            have HL := Aside0.mk HD.out.len
            go_wp2_with ((with_reducible refine gate_builtin (b := .append) (xs := #[.const (.slice none 0 0), .tmp 45]) rfl ?_); at_builtin; refine Kd.R_append_rows (Kd.int .i64) (w0 := Wb) Wb.heap.size rfl (.const (.slice none 0 0)) (.tmp 45) 22 3 (.int .i64 0) 8 rfl Try.underlying22 info3 rfl (by decide) (by omega) (.slice none 0 0) ([] : List Int) x AG l1.length cG (fun k_ => some k_ ≠ (Value.slice AG l1.length cG).ownBlock) (fun _ => False) rfl rfl (Kd.R_nil _ _ _ _ _) (by rw [← HL.out]; exact Kd.C_below (Kd.R_reads' HD.out.X).2.2 HB3.out) (fun _ _ h => h) (fun _ h => h.elim) (fun k hk => Kd.fresh' (Kd.R_lt (Kd.R_below HD.out.X HB3.out)) k hk) (below_step HD.out.B HB3.out) (below_step HD.out.B HB3.out).size (by simp; omega) ?_; intro v4 w4 ho _ hg _; rw [List.nil_append] at ho; have HI := Aside0.mk (HD.out.step (s' := (v, true, x)) (HB3.out.trans (Below.mono (⟨hg.os, hg.tape, hg.output, hg.size, fun k hk => hg.block k hk (by simp [Value.ownBlock])⟩ : Below _ _ w4) HB3.out.size)) (HS.out.trans (if_pos rfl)) ho); clear HS ho hg)
            go_meet
            case rel => exact ⟨_, _, rfl, rfl, rfl, HI⟩
        case rest =>
        have HLX := Aside0.mk HD.out.len
        clear HS HD HB3
        obtain ⟨s, _, rfl, rfl, rfl, HI⟩ := hcut
        have c20 := blk_cell (blk_below HPb.out HI.out.B) 0
        simp at c20
        go_wp2_with fail
        clear c20
        go_loopw [15] (fun v15 wr => ∃ m : Nat, v15 = .int .i64 ((m : Int) - 1) ∧ Aside0 (Oi Wb wr AG cG l1 V fin s x u12 m)) (fun v15 _ => (intOf v15 + 1).toNat)
        case atStart => exact ⟨l1.length, rfl, HI⟩
        case round =>
          clear HI
          obtain ⟨m, hm15, HM⟩ := hrel
          cases m with
          | zero =>
            obtain rfl := hm15.trans (show Value.int .i64 (((0 : Nat) : Int) - 1) = .int .i64 (-1) from rfl)
            obtain rfl : s = fin := HM.out.done
            obtain ⟨f1, f2, f3⟩ := s
            go_wp2_with fail
            go_quiet (fail)
            have HQ := Aside0.mk (HM.out.drewN nq)
            clear HM
            generalize wr.drewN nq = wz at *
            cases f2 with
            | true =>
              have H := HH.out
              rw [if_pos rfl] at H
              simp only [Option.some.injEq, Prod.mk.injEq] at H
              obtain ⟨rfl, rfl, rfl⟩ := H
              go_wp2_with fail
              refine bodyPost_ret (results_tmp3 rfl _ _ _) rfl ?_
              exact ⟨_, rfl, Kd.R_mono (Kd.R_lower HQ.out.U HBW.out.size) (fun _ _ => trivial), below_step HBW.out HQ.out.B⟩
            | false =>
              have H := HH.out
              rw [if_neg (by simp)] at H
              simp only [Option.some.injEq, Prod.mk.injEq] at H
              obtain ⟨rfl, rfl, rfl⟩ := H
              go_wp2_with fail
              refine bodyPost_ret (results_tmp3 rfl _ _ _) rfl ?_
              exact ⟨_, rfl, Kd.R_nil _ _ _ _ _, below_step HBW.out HQ.out.B⟩
          | succ m =>
            obtain rfl := hm15.trans (show Value.int .i64 (((m + 1 : Nat) : Int) - 1) = .int .i64 (m : Int) by congr 1; omega)
            have hml := HM.out.le
            obtain rfl := HA.out (by omega)
            obtain ⟨ad, rfl, hmc⟩ := Kd.at_int HRm.out (m : Int) (by omega) (by omega)
            rw [show rd l1 (m : Int) = l1.getD m 0 by simp [rd], Int.toNat_natCast] at hmc
            have cm1 : wr.cell? (ad.add m) = some (.int .i64 (l1.getD m 0)) := (HM.out.B.cell (World.block_lt_of_cell? Wb _ hmc)).trans hmc
            have HCM := Aside0.mk (fun (W : World) (h : Oi Wb W (some ⟨G, 0, none⟩) cG l1 V fin s x u12 (m + 1)) => h.cellm rfl)
            obtain ⟨cG1, zG1⟩ := HCM.out wr HM.out
            have hb0 := (HM.out.inb m (by omega)).1
            have hb1 := (HM.out.inb m (by omega)).2
            have hb2 := (HMO.out (l1.getD m 0) (by rw [List.getD_eq_getElem?_getD, List.getElem?_eq_getElem (show m < l1.length by omega)]; exact List.getElem_mem _)).2
            clear hmc
            by_cases he : x.getD m 0 = l1.getD m 0
            · have HDN := Aside0.mk (fun (W : World) (h : Oi Wb W (some ⟨G, 0, none⟩) cG l1 V fin s x u12 (m + 1)) => h.down rfl HG.out he)
              have d2 : (x.getD m 0 == l1.getD m 0) = true := beq_iff_eq.mpr he
              clear he
              generalize x.getD m 0 = a at *
              generalize l1.getD m 0 = b at *
              go_wp2_with fail
              go_quiet (fail)
              have HQ := Aside0.mk (HM.out.drewN nq)
              clear HM cm1 cG1 zG1
              generalize wr.drewN nq = wz at *
              obtain ⟨cG1, zG1⟩ := HCM.out wz HQ.out
              go_wp2_with fail
              go_roundw
              case rel => exact ⟨m, rfl, ⟨HDN.out wz HQ.out⟩⟩
              case measure => first | (simp [intOf]; done) | (simp [intOf]; omega)
            · have HNX := Aside0.mk (fun (W : World) (h : Oi Wb W (some ⟨G, 0, none⟩) cG l1 V fin s x u12 (m + 1)) => h.next rfl HG.out (fun b hb => (HMO.out b hb).1) he)
              have d2 : (x.getD m 0 == l1.getD m 0) = false := beq_eq_false_iff_ne.mpr he
              clear he
              generalize x.getD m 0 = a at *
              generalize l1.getD m 0 = b at *
              go_wp2_with fail
              go_quiet (fail)
              have HQ := Aside0.mk (HM.out.drewN nq)
              clear HM cm1 cG1 zG1
              generalize wr.drewN nq = wz at *
              obtain ⟨cG1, zG1⟩ := HCM.out wz HQ.out
              have HN1 := Aside0.mk (HNX.out wz HQ.out).1
              have HN2 := Aside0.mk (Nat.le_of_lt_succ (Nat.lt_of_lt_of_le (HNX.out wz HQ.out).2 HK.out))
              clear HNX
              go_wp2_with fail
              go_roundg k2
              case rel => exact ⟨s, _, _, rfl, rfl, rfl, HN1, HN2⟩
              case measure => omega
    · rw [if_neg ho] at H; cases H
  · rw [if_neg c5] at H
    have d1 : (b5 != 0) = true := by simp [c5]
    simp only [Option.some.injEq, Prod.mk.injEq] at H
    obtain ⟨rfl, rfl, rfl⟩ := H
    go_wp2_with fail
    refine bodyPost_ret (results_tmp3 rfl _ _ _) rfl ?_
    exact ⟨_, rfl, Kd.R_nil _ _ _ _ _, below_alloc HB.out _⟩

/-! ### timeboundref33_SameTerms: function 72 -/
def timeboundref33_SameTerms.l0 : Nat → List (S109) → List (S109) → Int → Int → Option (Bool)
  | 0, _, _, _, _ => none
  | k + 1, x0, x1, x12, x13 => if x13 < x12 then (if 0 ≤ x13 then (if x13 < (x0.length : Int) then (if x13 < (x1.length : Int) then (if (!(((rd_T109 x0 x13).f0) == ((rd_T109 x1 x13).f0)) || (!(((rd_T109 x0 x13).f1) == ((rd_T109 x1 x13).f1)))) = true then (some false) else (timeboundref33_SameTerms.l0 k x0 x1 x12 (wrap64 (x13 + 1)))) else (none)) else (none)) else (none)) else (some true)
def timeboundref33_SameTerms.f (k : Nat) (l0 : List (S109)) (l1 : List (S109)) : Option (Bool) := if (l0.length : Int) = (l1.length : Int) then (timeboundref33_SameTerms.l0 k l0 l1 (l0.length : Int) 0) else (some false)
theorem timeboundref33_SameTerms.mono_l : ∀ k, (∀ y0 y1 y2 y3, LeO (timeboundref33_SameTerms.l0 k y0 y1 y2 y3) (timeboundref33_SameTerms.l0 (k + 1) y0 y1 y2 y3))
  | 0 => fun _ _ _ _ r h => by simp [timeboundref33_SameTerms.l0] at h
  | k + 1 => by
    have ih0 := timeboundref33_SameTerms.mono_l k
    · intro y0 y1 y2 y3
      unfold timeboundref33_SameTerms.l0
      repeat' first
      | (with_reducible exact ih0 _ _ _ _)
      | (with_reducible exact LeO.refl _)
      | (with_reducible exact LeO.none _)
      | (with_reducible refine LeO.ite ?_ ?_)
      | (with_reducible refine LeO.bind ?_ (fun _ => ?_))
      | exact ih0 _ _ _ _
      | exact LeO.none _
      | refine LeO.ite ?_ ?_
      | refine LeO.bind ?_ (fun _ => ?_)
theorem timeboundref33_SameTerms.mono : ∀ a0 a1 k, LeO (timeboundref33_SameTerms.f k a0 a1) (timeboundref33_SameTerms.f (k + 1) a0 a1) := by
  intro a0 a1 k
  have ih0 := timeboundref33_SameTerms.mono_l k
  unfold timeboundref33_SameTerms.f
  repeat' first
      | (with_reducible exact ih0 _ _ _ _)
      | (with_reducible exact LeO.refl _)
      | (with_reducible exact LeO.none _)
      | (with_reducible refine LeO.ite ?_ ?_)
      | (with_reducible refine LeO.bind ?_ (fun _ => ?_))
      | exact ih0 _ _ _ _
      | exact LeO.none _
      | refine LeO.ite ?_ ?_
      | refine LeO.bind ?_ (fun _ => ?_)
set_option maxHeartbeats 8000000 in
set_option maxRecDepth 100000 in
theorem timeboundref33_SameTerms.calls (k : Nat) (A0 : Option Addr) (c0 : Nat) (l0 : List (S109)) (A1 : Option Addr) (c1 : Nat) (l1 : List (S109)) (r : Bool) (w : World) (hr0 : Kd.C k109 w A0 l0.length l0) (hc0 : l0.length ≤ c0) (hr1 : Kd.C k109 w A1 l1.length l1) (hc1 : l1.length ≤ c1) (h : timeboundref33_SameTerms.f k l0 l1 = some r) :
    Calls Try.prog 72 #[.slice A0 l0.length c0, .slice A1 l1.length c1] w fun e w' => e = .returned (.bool r) ∧ Drawn0 w w' := by
  have hu109 := Try.underlying109
  have HR0 := Aside0.mk hr0
  have HC0 := Aside0.mk hc0
  clear hr0 hc0
  have HR1 := Aside0.mk hr1
  have HC1 := Aside0.mk hc1
  clear hr1 hc1
  have H : (if (l0.length : Int) = (l1.length : Int) then (timeboundref33_SameTerms.l0 k l0 l1 (l0.length : Int) 0) else (some false)) = some r := h
  clear h
  by_cases c3 : (l0.length : Int) = (l1.length : Int)
  · rw [if_pos c3] at H
    have c3b0 : ((l0.length : Int) == (l1.length : Int)) = true := beq_iff_eq.mpr c3
    have c3b1 : ((l0.length : Int) != (l1.length : Int)) = false := bne_eq_false_iff_eq.mpr c3
    have c3b2 : (l0.length == l1.length) = true := by first | simpa using c3 | (simp at c3 ⊢; omega)
    clear c3
    have H' := Aside0.mk H
    clear H
    go_enter Try.func72, Try.ntmps72
    go_wp2
    go_loopg [13] k (fun kq v13 w' => ∃ (x13_1 : Int), v13 = .int .i64 x13_1 ∧ Aside0 (timeboundref33_SameTerms.l0 kq l0 l1 (l0.length : Int) x13_1 = some r) ∧ Aside0 (kq ≤ k) ∧ Drawn0 w w')
    case atStart => exact ⟨(0), (by first | rfl | (simp; done) | (simp [*]; done)), H', ⟨Nat.le_refl _⟩, by repeat (first | exact Drawn0.refl _ | apply Drawn0.step)⟩
    case round =>
      clear H'
      try clear c1
      try clear p2
      try clear c3
      try clear c3b0
      try clear c3b1
      try clear c3b2
      obtain ⟨x13_1, rfl, HA, HK1, ⟨m1, rfl⟩⟩ := hrel
      cases gk with
      | zero => exact absurd HA.out (by simp [timeboundref33_SameTerms.l0])
      | succ k1 =>
        have H := HA.out
        clear HA
        simp only [timeboundref33_SameTerms.l0] at H
        by_cases c4 : x13_1 < (l0.length : Int)
        · rw [if_pos c4] at H
          have c4b0 : decide (x13_1 < (l0.length : Int)) = true := decide_eq_true c4
          clear c4
          by_cases c5 : 0 ≤ x13_1
          · rw [if_pos c5] at H
            have c5b0 : decide (0 ≤ x13_1) = true := decide_eq_true c5
            clear c5
            by_cases c6 : x13_1 < (l0.length : Int)
            · rw [if_pos c6] at H
              have c6b0 : decide (x13_1 < (l0.length : Int)) = true := decide_eq_true c6
              clear c6
              by_cases c7 : x13_1 < (l1.length : Int)
              · rw [if_pos c7] at H
                have c7b0 : decide (x13_1 < (l1.length : Int)) = true := decide_eq_true c7
                clear c7
                by_cases c8 : (!(((rd_T109 l0 x13_1).f0) == ((rd_T109 l1 x13_1).f0)) || (!(((rd_T109 l0 x13_1).f1) == ((rd_T109 l1 x13_1).f1)))) = true
                · rw [if_pos c8] at H
                  have c8b0 : (!(((rd_T109 l0 x13_1).f0) == ((rd_T109 l1 x13_1).f0)) || (!(((rd_T109 l0 x13_1).f1) == ((rd_T109 l1 x13_1).f1)))) = true := c8
                  clear c8
                  obtain rfl := Option.some.inj H
                  have p250 : 0 ≤ (x13_1 : Int) := of_decide_eq_true (by first | (with_reducible assumption) | assumption)
                  have q250 : x13_1 < (l0.length : Int) := of_decide_eq_true (by first | (with_reducible assumption) | assumption)
                  obtain ⟨ad250, e250, hx250_0, hx250_1⟩ := at_T109 HR0.out x13_1 p250 q250
                  cases e250
                  replace p250 := eq_true p250
                  replace q250 := eq_true q250
                  have p251 : 0 ≤ (x13_1 : Int) := of_decide_eq_true (by first | (with_reducible assumption) | assumption)
                  have q251 : x13_1 < (l1.length : Int) := of_decide_eq_true (by first | (with_reducible assumption) | assumption)
                  obtain ⟨ad251, e251, hx251_0, hx251_1⟩ := at_T109 HR1.out x13_1 p251 q251
                  cases e251
                  replace p251 := eq_true p251
                  replace q251 := eq_true q251
                  go_wp2
                  try go_quiet (fail)
                  try go_wp2
                  go_ret
                  exact ⟨by first | rfl | (simp; done) | (simp [*]; done), by repeat (first | exact Drawn0.refl _ | apply Drawn0.step)⟩
                · rw [if_neg c8] at H
                  have c8b0 : (!(((rd_T109 l0 x13_1).f0) == ((rd_T109 l1 x13_1).f0)) || (!(((rd_T109 l0 x13_1).f1) == ((rd_T109 l1 x13_1).f1)))) = false := by simpa using c8
                  clear c8
                  have H' := Aside0.mk H
                  clear H
                  have p250 : 0 ≤ (x13_1 : Int) := of_decide_eq_true (by first | (with_reducible assumption) | assumption)
                  have q250 : x13_1 < (l0.length : Int) := of_decide_eq_true (by first | (with_reducible assumption) | assumption)
                  obtain ⟨ad250, e250, hx250_0, hx250_1⟩ := at_T109 HR0.out x13_1 p250 q250
                  cases e250
                  replace p250 := eq_true p250
                  replace q250 := eq_true q250
                  have p251 : 0 ≤ (x13_1 : Int) := of_decide_eq_true (by first | (with_reducible assumption) | assumption)
                  have q251 : x13_1 < (l1.length : Int) := of_decide_eq_true (by first | (with_reducible assumption) | assumption)
                  obtain ⟨ad251, e251, hx251_0, hx251_1⟩ := at_T109 HR1.out x13_1 p251 q251
                  cases e251
                  replace p251 := eq_true p251
                  replace q251 := eq_true q251
                  go_wp2
                  try go_quiet (fail)
                  try go_wp2
                  go_roundg k1
                  case measure => have := HK1.out; omega
                  case rel => exact ⟨(wrap64 (x13_1 + 1)), (by first | rfl | (simp; done) | (simp [*]; done)), H', ⟨by have := HK1.out; omega⟩, by repeat (first | exact Drawn0.refl _ | apply Drawn0.step)⟩
              · rw [if_neg c7] at H
                exact absurd H (by simp)
            · rw [if_neg c6] at H
              exact absurd H (by simp)
          · rw [if_neg c5] at H
            exact absurd H (by simp)
        · rw [if_neg c4] at H
          have c4b0 : decide (x13_1 < (l0.length : Int)) = false := decide_eq_false c4
          clear c4
          obtain rfl := Option.some.inj H
          go_wp2
          go_ret
          exact ⟨by first | rfl | (simp; done) | (simp [*]; done), by repeat (first | exact Drawn0.refl _ | apply Drawn0.step)⟩
  · rw [if_neg c3] at H
    have c3b0 : ((l0.length : Int) == (l1.length : Int)) = false := beq_eq_false_iff_ne.mpr c3
    have c3b1 : ((l0.length : Int) != (l1.length : Int)) = true := bne_iff_ne.mpr c3
    have c3b2 : (l0.length == l1.length) = false := by first | simpa using c3 | (simp at c3 ⊢; omega)
    obtain rfl := Option.some.inj H
    go_enter Try.func72, Try.ntmps72
    go_wp2
    go_ret
    exact ⟨by first | rfl | (simp; done) | (simp [*]; done), by repeat (first | exact Drawn0.refl _ | apply Drawn0.step)⟩

end Go.Proofs.Ytdgegoefehmfmaa.QIntegerSolves
