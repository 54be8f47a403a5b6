-- Written for this claim by this session's own program (wip/pp).
import Derived.Test.YtdgegoefehmfmaaQIntegerSolvesx0
import Derived.Test.YtdgegoefehmfmaaQIntegerSolvesx2
import Derived.Test.YtdgegoefehmfmaaQIntegerSolvesx3
import Derived.Test.YtdgegoefehmfmaaQIntegerSolvesx4
namespace Go.Proofs.Ytdgegoefehmfmaa.QIntegerSolves
open Go.RowKit Go.Proofs.YtdgegoefehmfmaaW.PrintWords Go.Proofs.YtdgegoefehmfmaaW.PrintLast Go.Proofs.YtdgegoefehmfmaaW.PrintMore
attribute [local go_sem] max2_int min2_int max_two min_two max_three min_three max_four min_four   -- for this text's walks alone
set_option linter.unusedVariables false
set_option linter.unusedSimpArgs false

/-! ### integer_Solve: function 22 -/
/-- A round of the search. -/
def stepB (v : Int) (ok : Bool) (s : Int × Bool × List Int) (x : List Int) : Int × Bool × List Int := if (ok && (!s.2.1 || decide (s.1 < v))) = true then (v, true, x) else s
/-- All columns within a box, in the order of lists. -/
def grid : List Int → List (List Int)
  | [] => [[]]
  | m :: ms => (List.range (m + 1).toNat).flatMap fun (j : Nat) => (grid ms).map fun y => (j : Int) :: y
/-- What the search holds: the best value, whether there is one, and where. -/
def Srch (W : World) (base b9 b10 b11 : Nat) (s : Int × Bool × List Int) : Prop :=
  W.heap[b9]? = some (.cells #[.int .i64 s.1] 3 (0, 0)) ∧ W.heap[b10]? = some (.cells #[.bool s.2.1] 4 (0, 0)) ∧ ∃ u, W.heap[b11]? = some (.cells #[u] 22 (0, 0)) ∧ Kd.R (Kd.int .i64) 3 W base (fun _ => True) u s.2.2
set_option maxHeartbeats 2000000 in
set_option maxRecDepth 100000 in
theorem Solve_step (k : Nat) (n : Int) (A1 : Option Addr) (c1 : Nat) (rows : List S96) (A2 : Option Addr) (c2 : Nat) (goal : List S109) (const : Int) (Ax : Option Addr) (cx : Nat) (x : List Int) (v : Int) (ok : Bool) (W : World) (b7 b9 b10 b11 : Nat)
    (hr1 : Kd.C k96 W A1 rows.length rows) (hl1 : rows.length ≤ c1) (hr2 : Kd.C k109 W A2 goal.length goal) (hl2 : goal.length ≤ c2) (hx : Kd.C (Kd.int .i64) W Ax x.length x) (hlx : x.length ≤ cx) (hx8 : x.length * 8 ≤ 140737488355328)
    (hm : W.heap[b7]? = some (.cells #[.int .i64 n, .slice A1 rows.length c1, .slice A2 goal.length c2, .int .i64 const] 29 (0, 0)))
    (hv : integer_Value.f k n rows goal const x = some (v, ok)) (best : Int) (found : Bool) (u : Value)
    (h9 : W.heap[b9]? = some (.cells #[.int .i64 best] 3 (0, 0))) (h10 : W.heap[b10]? = some (.cells #[.bool found] 4 (0, 0))) (h11 : W.heap[b11]? = some (.cells #[u] 22 (0, 0))) :
    Calls Try.prog 70 #[.slice Ax x.length cx, .pointer (some ⟨b7, 0, none⟩), .pointer (some ⟨b10, 0, none⟩), .pointer (some ⟨b9, 0, none⟩), .pointer (some ⟨b11, 0, none⟩)] W fun e W' => (∃ r, e = .returned r) ∧
      ((ok && (!found || decide (best < v))) = false ∧ Below W.heap.size W W' ∨
       (ok && (!found || decide (best < v))) = true ∧ ∃ W2 u', Below W.heap.size W W2 ∧ Kd.R (Kd.int .i64) 3 W2 W.heap.size (fun _ => True) u' x ∧ W' = ((W2.setCell ⟨b9, 0, none⟩ (.int .i64 v)).setCell ⟨b11, 0, none⟩ u').setCell ⟨b10, 0, none⟩ (.bool true)) := by
  have hu29 := Try.underlying29
  have m0 : W.cell? ⟨b7, 0, none⟩ = some (.int .i64 n) := blk_cell hm 0
  have m1 : W.cell? ⟨b7, 1, none⟩ = some (.slice A1 rows.length c1) := blk_cell hm 1
  have m2 : W.cell? ⟨b7, 2, none⟩ = some (.slice A2 goal.length c2) := blk_cell hm 2
  have m3 : W.cell? ⟨b7, 3, none⟩ = some (.int .i64 const) := blk_cell hm 3
  have HC := Aside0.mk (integer_Value.calls k n A1 c1 rows A2 c2 goal const Ax cx x v ok W hr1 hl1 hr2 hl2 hx hlx hv)
  have g9 : W.cell? ⟨b9, 0, none⟩ = some (.int .i64 best) := blk_cell h9 0
  have g10 : W.cell? ⟨b10, 0, none⟩ = some (.bool found) := blk_cell h10 0
  have g11 : W.cell? ⟨b11, 0, none⟩ = some u := blk_cell h11 0
  have HX := Aside0.mk hx
  have P9 := Aside0.mk h9
  have P10 := Aside0.mk h10
  have P11 := Aside0.mk h11
  clear hr1 hr2 hx hm hv h9 h10 h11
  go_enter Try.func70, Try.ntmps70
  go_wp2_with fail
  refine HC.out.mono ?_
  rintro e w1 ⟨rfl, hb⟩
  have q9 := cell_on hb g9
  have q10 := cell_on hb g10
  have q11 := cell_on hb g11
  have HB := Aside0.mk hb
  clear m0 m1 m2 m3 g9 g10 g11 hb
  cases ok with
  | false =>
    go_wp2_with fail
    go_end0
    exact ⟨⟨_, rfl⟩, .inl ⟨rfl, HB.out⟩⟩
  | true =>
    cases found with
    | true =>
      by_cases c1 : best < v
      · have d1 : decide (best < v) = true := decide_eq_true c1
        have HK := Aside0.mk (slices_Clone_int_int.calls Ax cx x x w1 (Kd.C_below HX.out HB.out) hlx (by unfold slices_Clone_int_int.f; rw [if_pos hx8]))
        go_wp2_with fail
        refine HK.out.mono ?_
        rintro e w2 ⟨u', rfl, hu', hb2⟩
        obtain ⟨A', c', rfl⟩ := Kd.R_slice hu'
        have HB2 := Aside0.mk (HB.out.trans (hb2.mono HB.out.size))
        have HU := Aside0.mk (Kd.R_lower hu' HB.out.size)
        have e9 := (HB2.out.block b9 (blk_lt P9.out)).trans P9.out
        have e10 := (HB2.out.block b10 (blk_lt P10.out)).trans P10.out
        have e11 := (HB2.out.block b11 (blk_lt P11.out)).trans P11.out
        have n1 : b11 ≠ b9 := blk_ne e11 e9 (by decide)
        have n2 : b10 ≠ b9 := blk_ne e10 e9 (by decide)
        have n3 : b10 ≠ b11 := blk_ne e10 e11 (by decide)
        have f11 := blk_far e11 (p := ⟨b9, 0, none⟩) n1 (.int .i64 v)
        have f10 := blk_far (blk_far e10 (p := ⟨b9, 0, none⟩) n2 (.int .i64 v)) (p := ⟨b11, 0, none⟩) n3 (.slice A' x.length c')
        have r9 := blk_cell e9 0
        have r10 := blk_cell f10 0
        have r11 := blk_cell f11 0
        have z9 := blk_frozen e9 0
        have z10 := blk_frozen f10 0
        have z11 := blk_frozen f11 0
        simp at r9 r10 r11
        clear q9 q10 q11 hu' hb2 HK e9 e10 e11 f10 f11
        go_wp2_with fail
        go_end0
        exact ⟨⟨_, rfl⟩, .inr ⟨by rw [d1]; rfl, w2, _, HB2.out, HU.out, rfl⟩⟩
      · have d1 : decide (best < v) = false := decide_eq_false c1
        go_wp2_with fail
        go_end0
        exact ⟨⟨_, rfl⟩, .inl ⟨by rw [d1]; rfl, HB.out⟩⟩
    | false =>
      have HK := Aside0.mk (slices_Clone_int_int.calls Ax cx x x w1 (Kd.C_below HX.out HB.out) hlx (by unfold slices_Clone_int_int.f; rw [if_pos hx8]))
      go_wp2_with fail
      refine HK.out.mono ?_
      rintro e w2 ⟨u', rfl, hu', hb2⟩
      obtain ⟨A', c', rfl⟩ := Kd.R_slice hu'
      have HB2 := Aside0.mk (HB.out.trans (hb2.mono HB.out.size))
      have HU := Aside0.mk (Kd.R_lower hu' HB.out.size)
      have e9 := (HB2.out.block b9 (blk_lt P9.out)).trans P9.out
      have e10 := (HB2.out.block b10 (blk_lt P10.out)).trans P10.out
      have e11 := (HB2.out.block b11 (blk_lt P11.out)).trans P11.out
      have n1 : b11 ≠ b9 := blk_ne e11 e9 (by decide)
      have n2 : b10 ≠ b9 := blk_ne e10 e9 (by decide)
      have n3 : b10 ≠ b11 := blk_ne e10 e11 (by decide)
      have f11 := blk_far e11 (p := ⟨b9, 0, none⟩) n1 (.int .i64 v)
      have f10 := blk_far (blk_far e10 (p := ⟨b9, 0, none⟩) n2 (.int .i64 v)) (p := ⟨b11, 0, none⟩) n3 (.slice A' x.length c')
      have r9 := blk_cell e9 0
      have r10 := blk_cell f10 0
      have r11 := blk_cell f11 0
      have z9 := blk_frozen e9 0
      have z10 := blk_frozen f10 0
      have z11 := blk_frozen f11 0
      simp at r9 r10 r11
      clear q9 q10 q11 hu' hb2 HK e9 e10 e11 f10 f11
      go_wp2_with fail
      go_end0
      exact ⟨⟨_, rfl⟩, .inr ⟨rfl, w2, _, HB2.out, HU.out, rfl⟩⟩
/-- The blocks that the search writes. -/
def Wr4 (b9 b10 b11 G : Nat) (k : Nat) : Prop := k = b9 ∨ k = b10 ∨ k = b11 ∨ k = G
/-- What stays during the search, from the world ahead of it on. -/
structure Stat (Wr Wb : World) (b7 b9 b10 b11 bm bf bx bv G cm cG c1 c2 : Nat) (Am A1 A2 AG : Option Addr) (n const : Int) (rows : List S96) (goal : List S109) (most : List Int) : Prop where
  h7 : Wb.heap[b7]? = some (.cells #[.int .i64 n, .slice A1 rows.length c1, .slice A2 goal.length c2, .int .i64 const] 29 (0, 0))
  hm : Wb.heap[bm]? = some (.cells #[.slice Am most.length cm] 22 (0, 0))
  hf : Wb.heap[bf]? = some (.cells #[.func (Fn.func 70) #[] #[.pointer (some ⟨b7, 0, none⟩), .pointer (some ⟨b10, 0, none⟩), .pointer (some ⟨b9, 0, none⟩), .pointer (some ⟨b11, 0, none⟩)]] 117 (0, 0))
  hx : Wb.heap[bx]? = some (.cells #[.slice AG most.length cG] 22 (0, 0))
  hv : Wb.heap[bv]? = some (.cells #[.func (Fn.func 115) #[] #[.pointer (some ⟨bm, 0, none⟩), .pointer (some ⟨bf, 0, none⟩), .pointer (some ⟨bx, 0, none⟩), .pointer (some ⟨bv, 0, none⟩)]] 163 (0, 0))
  n7 : ¬ Wr4 b9 b10 b11 G b7
  nm : ¬ Wr4 b9 b10 b11 G bm
  nf : ¬ Wr4 b9 b10 b11 G bf
  nx : ¬ Wr4 b9 b10 b11 G bx
  nv : ¬ Wr4 b9 b10 b11 G bv
  g9 : G ≠ b9
  g10 : G ≠ b10
  g11 : G ≠ b11
  l9 : Wr.heap.size ≤ b9 ∧ b9 < Wb.heap.size
  l10 : Wr.heap.size ≤ b10 ∧ b10 < Wb.heap.size
  l11 : Wr.heap.size ≤ b11 ∧ b11 < Wb.heap.size
  lG : Wr.heap.size ≤ G ∧ G < Wb.heap.size
  r1 : Kd.C k96 Wr A1 rows.length rows
  r2 : Kd.C k109 Wr A2 goal.length goal
  rm : Kd.C (Kd.int .i64) Wr Am most.length most
  c1 : rows.length ≤ c1
  c2 : goal.length ≤ c2
  cm : most.length ≤ cm
  hs : most.length * 8 ≤ 140737488355328
  hA : 0 < most.length → AG = some ⟨G, 0, none⟩
  hb : ∀ m ∈ most, 0 ≤ m ∧ m ≤ 1048576
/-- Where the search stands. -/
structure Dyn (Wr Wb W : World) (b9 b10 b11 G : Nat) (AG : Option Addr) (cG len : Nat) (s : Int × Bool × List Int) (xs : List Int) : Prop where
  B : Below Wr.heap.size Wr W
  K : Kept Wb W (Wr4 b9 b10 b11 G)
  S : Srch W Wb.heap.size b9 b10 b11 s
  X : Kd.R (Kd.int .i64) 3 W 0 (fun k => k = G) (.slice AG len cG) xs
theorem Dyn.reads {Wr Wb W : World} {b9 b10 b11 G : Nat} {AG : Option Addr} {cG len : Nat} {s : Int × Bool × List Int} {xs : List Int} (h : Dyn Wr Wb W b9 b10 b11 G AG cG len s xs) : len = xs.length ∧ len ≤ cG ∧ Kd.C (Kd.int .i64) W AG xs.length xs := Kd.R_reads' h.X
/-- A round of the search leads from one standing to the next. -/
theorem Dyn.step {Wr Wb : World} {b7 b9 b10 b11 bm bf bx bv G cm cG c1 c2 : Nat} {Am A1 A2 AG : Option Addr} {n const : Int} {rows : List S96} {goal : List S109} {most : List Int} {W : World} {s : Int × Bool × List Int} {x : List Int}
    (hS : Stat Wr Wb b7 b9 b10 b11 bm bf bx bv G cm cG c1 c2 Am A1 A2 AG n const rows goal most) (hD : Dyn Wr Wb W b9 b10 b11 G AG cG most.length s x) (k : Nat) (v : Int) (ok : Bool) (hv : integer_Value.f k n rows goal const x = some (v, ok)) :
    Calls Try.prog 70 #[.slice AG most.length cG, .pointer (some ⟨b7, 0, none⟩), .pointer (some ⟨b10, 0, none⟩), .pointer (some ⟨b9, 0, none⟩), .pointer (some ⟨b11, 0, none⟩)] W fun e W' => (∃ r, e = .returned r) ∧ Dyn Wr Wb W' b9 b10 b11 G AG cG most.length (stepB v ok s x) x := by
  obtain ⟨s9, s10, u, s11, su⟩ := hD.S
  obtain ⟨hlen, hcap, hread⟩ := hD.reads
  have h7 := blk_kept hS.h7 hD.K hS.n7
  rw [hlen]
  refine (Solve_step k n A1 c1 rows A2 c2 goal const AG cG x v ok W b7 b9 b10 b11 (Kd.C_below hS.r1 hD.B) hS.c1 (Kd.C_below hS.r2 hD.B) hS.c2 hread (by omega) (by have := hS.hs; omega) h7 hv s.1 s.2.1 u s9 s10 s11).mono ?_
  rintro e W' ⟨hr, h | ⟨ht, W2, u', hb2, hu', rfl⟩⟩
  · refine ⟨hr, ?_⟩
    rw [stepB, if_neg (by rw [h.1]; simp)]
    exact ⟨hD.B.trans (h.2.mono hD.B.size), hD.K.below h.2, ⟨(h.2.block _ (blk_lt s9)).trans s9, (h.2.block _ (blk_lt s10)).trans s10, u, (h.2.block _ (blk_lt s11)).trans s11, Kd.R_below su h.2⟩, by rw [← hlen]; exact Kd.R_below hD.X h.2⟩
  · refine ⟨hr, ?_⟩
    rw [stepB, if_pos ht]
    have e9 := (hb2.block _ (blk_lt s9)).trans s9
    have e10 := (hb2.block _ (blk_lt s10)).trans s10
    have e11 := (hb2.block _ (blk_lt s11)).trans s11
    have n1 : b11 ≠ b9 := blk_ne e11 e9 (by decide)
    have n2 : b10 ≠ b9 := blk_ne e10 e9 (by decide)
    have n3 : b10 ≠ b11 := blk_ne e10 e11 (by decide)
    have hsz := hD.K.1
    refine ⟨?_, ?_, ⟨?_, ?_, u', ?_, ?_⟩, ?_⟩
    · exact (((hD.B.trans (hb2.mono hD.B.size)).setCell hS.l9.1 _).setCell hS.l11.1 _).setCell hS.l10.1 _
    · exact (((hD.K.below hb2).setCell (p := ⟨b9, 0, none⟩) (.inl (.inl rfl)) _).setCell (p := ⟨b11, 0, none⟩) (.inl (.inr (.inr (.inl rfl)))) _).setCell (p := ⟨b10, 0, none⟩) (.inl (.inr (.inl rfl))) _
    · exact blk_far (blk_far (blk_put e9 0 (.int .i64 v) rfl) (p := ⟨b11, 0, none⟩) n1.symm _) (p := ⟨b10, 0, none⟩) n2.symm _
    · exact blk_put (blk_far (blk_far e10 (p := ⟨b9, 0, none⟩) n2 _) (p := ⟨b11, 0, none⟩) n3 _) 0 (.bool true) rfl
    · exact blk_far (blk_put (blk_far e11 (p := ⟨b9, 0, none⟩) n1 _) 0 u' rfl) (p := ⟨b10, 0, none⟩) n3.symm _
    · have hu2 := Kd.R_bound hu'
      have hw : ∀ b, b < Wb.heap.size → ∀ k, (True ∧ W.heap.size ≤ k ∧ k < W2.heap.size ∧ ∃ q, q ∈ 3 :: (Kd.int .i64).E ∧ ∃ cells, W2.heap[k]? = some (.cells cells q (0, 0))) → k ≠ b := fun b hb k hk => by have := hk.2.1; omega
      exact Kd.R_mono (Kd.R_lower (Kd.R_far (p := ⟨b10, 0, none⟩) (Kd.R_far (p := ⟨b11, 0, none⟩) (Kd.R_far (p := ⟨b9, 0, none⟩) hu2 (hw b9 hS.l9.2) _) (hw b11 hS.l11.2) _) (hw b10 hS.l10.2) _) hsz) (fun _ _ => trivial)
    · rw [← hlen]
      exact Kd.R_far (p := ⟨b10, 0, none⟩) (Kd.R_far (p := ⟨b11, 0, none⟩) (Kd.R_far (p := ⟨b9, 0, none⟩) (Kd.R_below hD.X hb2) (fun k hk => by rw [hk]; exact hS.g9) _) (fun k hk => by rw [hk]; exact hS.g11) _) (fun k hk => by rw [hk]; exact hS.g10) _
theorem Dyn.put {Wr Wb W : World} {b7 b9 b10 b11 bm bf bx bv G cm cG c1 c2 : Nat} {Am A1 A2 AG : Option Addr} {n const : Int} {rows : List S96} {goal : List S109} {most : List Int} {s : Int × Bool × List Int} {xs : List Int}
    (hS : Stat Wr Wb b7 b9 b10 b11 bm bf bx bv G cm cG c1 c2 Am A1 A2 AG n const rows goal most) (hD : Dyn Wr Wb W b9 b10 b11 G AG cG most.length s xs) (k : Nat) (hk : k < most.length) (v : Int) :
    Dyn Wr Wb (W.setCell ⟨G, k, none⟩ (.int .i64 v)) b9 b10 b11 G AG cG most.length s (xs.set k v) := by
  obtain rfl := hS.hA (by omega)
  obtain ⟨s9, s10, u, s11, su⟩ := hD.S
  refine ⟨hD.B.setCell hS.lG.1 _, hD.K.setCell (p := ⟨G, k, none⟩) (.inl (.inr (.inr (.inr rfl)))) _, ⟨blk_far s9 (p := ⟨G, k, none⟩) hS.g9.symm _, blk_far s10 (p := ⟨G, k, none⟩) hS.g10.symm _, u, blk_far s11 (p := ⟨G, k, none⟩) hS.g11.symm _, ?_⟩, ?_⟩
  · exact Kd.R_mono (Kd.R_far (p := ⟨G, k, none⟩) (Kd.R_bound su) (fun j hj => by have := hj.2.1; have := hS.lG.2; show j ≠ G; omega) _) (fun _ _ => trivial)
  · have := (Kd.R_putg hD.X (k : Int) v).1
    rw [Int.toNat_natCast] at this
    exact this
theorem Dyn.cell {Wr Wb W : World} {b9 b10 b11 G : Nat} {AG : Option Addr} {cG len : Nat} {s : Int × Bool × List Int} {xs : List Int} (hD : Dyn Wr Wb W b9 b10 b11 G AG cG len s xs) (hA : AG = some ⟨G, 0, none⟩) (k : Nat) (hk : k < len) :
    W.cell? ⟨G, k, none⟩ = some (.int .i64 (xs.getD k 0)) ∧ W.frozen? ⟨G, k, none⟩ = false := by
  subst hA
  have h := Kd.R_celln 0 hD.X (k : Int) (by omega) (by omega)
  simpa [rdOf, Int.toNat_natCast] using h
theorem Dyn.drewN {Wr Wb W : World} {b9 b10 b11 G : Nat} {AG : Option Addr} {cG len : Nat} {s : Int × Bool × List Int} {xs : List Int} (hD : Dyn Wr Wb W b9 b10 b11 G AG cG len s xs) (q : Nat) : Dyn Wr Wb (W.drewN q) b9 b10 b11 G AG cG len s xs := by
  obtain ⟨s9, s10, u, s11, su⟩ := hD.S
  exact ⟨pw_below_drewN hD.B q, hD.K.drewN q, ⟨s9, s10, u, s11, Kd.R_drewN su q⟩, Kd.R_drewN hD.X q⟩
/-- A step of the search with a value that is told. -/
def stepV (V : List Int → Int × Bool) (s : Int × Bool × List Int) (x : List Int) : Int × Bool × List Int := stepB (V x).1 (V x).2 s x
def visitF (V : List Int → Int × Bool) (pre : List Int) (g : List (List Int)) (s : Int × Bool × List Int) : Int × Bool × List Int := g.foldl (fun s y => stepV V s (pre ++ y)) s
/-- The first j numbers of a column. -/
def firstF (V : List Int → Int × Bool) (pre ms : List Int) (s : Int × Bool × List Int) (j : Nat) : Int × Bool × List Int := (List.range j).foldl (fun s (i : Nat) => visitF V (pre ++ [(i : Int)]) (grid ms) s) s
theorem visitF_cons (V : List Int → Int × Bool) (pre ms : List Int) (m : Int) (s : Int × Bool × List Int) : visitF V pre (grid (m :: ms)) s = firstF V pre ms s (m + 1).toNat := by
  unfold visitF firstF
  rw [show grid (m :: ms) = (List.range (m + 1).toNat).flatMap fun (j : Nat) => (grid ms).map fun y => (j : Int) :: y from rfl, List.foldl_flatMap]
  congr 1
  funext s' i
  rw [List.foldl_map, visitF]
  congr 1
  funext s'' y
  rw [List.append_assoc]
  rfl
theorem firstF_succ (V : List Int → Int × Bool) (pre ms : List Int) (s : Int × Bool × List Int) (j : Nat) : firstF V pre ms s (j + 1) = visitF V (pre ++ [(j : Int)]) (grid ms) (firstF V pre ms s j) := by
  unfold firstF
  rw [List.range_succ, List.foldl_append]
  rfl
def cellInt (w : World) (a : Addr) : Int := match w.cell? a with | some (.int _ i) => i | _ => 0
set_option maxHeartbeats 4000000 in
set_option maxRecDepth 100000 in
theorem Solve_visit {Wr Wb : World} {b7 b9 b10 b11 bm bf bx bv G cm cG c1 c2 : Nat} {Am A1 A2 AG : Option Addr} {n const : Int} {rows : List S96} {goal : List S109} {most : List Int}
    (hS : Stat Wr Wb b7 b9 b10 b11 bm bf bx bv G cm cG c1 c2 Am A1 A2 AG n const rows goal most) (kv : Nat) (V : List Int → Int × Bool) (d : Nat) : ∀ (k : Nat) (pre : List Int) (s : Int × Bool × List Int) (W : World), k + d = most.length → pre.length = k →
    (∀ y ∈ grid (most.drop k), integer_Value.f kv n rows goal const (pre ++ y) = some (V (pre ++ y))) → Dyn Wr Wb W b9 b10 b11 G AG cG most.length s (pre ++ List.replicate d 0) →
    Calls Try.prog 115 #[.int .i64 (k : Int), .pointer (some ⟨bm, 0, none⟩), .pointer (some ⟨bf, 0, none⟩), .pointer (some ⟨bx, 0, none⟩), .pointer (some ⟨bv, 0, none⟩)] W fun e W' => (∃ r, e = .returned r) ∧ Dyn Wr Wb W' b9 b10 b11 G AG cG most.length (visitF V pre (grid (most.drop k)) s) (pre ++ List.replicate d 0) := by
  induction d with
  | zero =>
    intro k pre s W hk hp hV hD
    have hkk : ((k : Int) == (most.length : Int)) = true := by simp; omega
    have hg : most.drop k = [] := List.drop_of_length_le (by omega)
    rw [hg] at hV ⊢
    have hv := hV [] (by simp [grid])
    rw [show List.replicate 0 (0 : Int) = [] from rfl] at hD ⊢
    have HC := Aside0.mk (hD.step hS kv _ _ hv)
    have cm0 : W.cell? ⟨bm, 0, none⟩ = some (.slice Am most.length cm) := blk_cell (blk_kept hS.hm hD.K hS.nm) 0
    have cf0 : W.cell? ⟨bf, 0, none⟩ = some (.func (Fn.func 70) #[] #[.pointer (some ⟨b7, 0, none⟩), .pointer (some ⟨b10, 0, none⟩), .pointer (some ⟨b9, 0, none⟩), .pointer (some ⟨b11, 0, none⟩)]) := blk_cell (blk_kept hS.hf hD.K hS.nf) 0
    have cx0 : W.cell? ⟨bx, 0, none⟩ = some (.slice AG most.length cG) := blk_cell (blk_kept hS.hx hD.K hS.nx) 0
    clear hV hv hD
    go_enter Try.func115, Try.ntmps115
    go_wp2_with fail
    refine HC.out.mono ?_
    rintro e w1 ⟨⟨r, rfl⟩, h⟩
    have HH := Aside0.mk h
    clear h
    go_wp2_with fail
    first | go_end0 | ((try simp only [Exit.inBlock, Exit.then]); refine bodyPost_ret (results_none rfl _ _ _) rfl ?_)
    exact ⟨⟨_, rfl⟩, HH.out⟩
  | succ d ih =>
    intro k pre s W hk hp hV hD
    have hlt : k < most.length := by omega
    obtain rfl := hS.hA (by omega)
    have hkk : ((k : Int) == (most.length : Int)) = false := by simp; omega
    have hdr : most.drop k = most[k] :: most.drop (k + 1) := List.drop_eq_getElem_cons hlt
    rw [hdr] at hV ⊢
    have hm := hS.hb most[k] (List.getElem_mem hlt)
    obtain ⟨ad, rfl, hmc⟩ := Kd.at_int hS.rm (k : Int) (by omega) (by omega)
    have hrd : rd most (k : Int) = most[k] := by simp [rd, List.getD_eq_getElem?_getD, hlt]
    rw [hrd, Int.toNat_natCast] at hmc
    generalize most[k] = m at *
    have HV : Aside0 (∀ (j : Nat), (j : Int) ≤ m → ∀ y ∈ grid (most.drop (k + 1)), integer_Value.f kv n rows goal const ((pre ++ [(j : Int)]) ++ y) = some (V ((pre ++ [(j : Int)]) ++ y))) := ⟨fun j hj y hy => by
      rw [List.append_assoc]
      exact hV _ (by rw [grid, List.mem_flatMap]; exact ⟨j, List.mem_range.2 (by omega), List.mem_map.2 ⟨y, hy, rfl⟩⟩)⟩
    have hset : ∀ v w : Int, (pre ++ v :: List.replicate d 0).set k w = pre ++ w :: List.replicate d 0 := fun v w => by
      subst hp; simp
    have hget : ∀ v : Int, (pre ++ v :: List.replicate d 0).getD k 0 = v := fun v => by
      subst hp; simp [List.getD_eq_getElem?_getD]
    have hass : ∀ v : Int, pre ++ v :: List.replicate d 0 = (pre ++ [v]) ++ List.replicate d 0 := fun v => by simp
    rw [List.replicate_succ] at hD ⊢
    have hD0 : Dyn Wr Wb (W.setCell ⟨G, k, none⟩ (.int .i64 0)) b9 b10 b11 G (some ⟨G, 0, none⟩) cG most.length s (pre ++ 0 :: List.replicate d 0) := by
      have := hD.put hS k hlt 0
      rwa [hset] at this
    have cm0 : W.cell? ⟨bm, 0, none⟩ = some (.slice (some ad) most.length cm) := blk_cell (blk_kept hS.hm hD.K hS.nm) 0
    have cx0 : W.cell? ⟨bx, 0, none⟩ = some (.slice (some ⟨G, 0, none⟩) most.length cG) := blk_cell (blk_kept hS.hx hD.K hS.nx) 0
    obtain ⟨cG0, zG0⟩ := hD.cell rfl k hlt
    rw [hget] at cG0
    have HD := Aside0.mk hD0
    clear hD hD0 hV
    go_enter Try.func115, Try.ntmps115
    go_wp2_with fail
    clear cm0 cx0 cG0 zG0
    go_loopw [] (fun wr => ∃ j : Nat, (j : Int) ≤ m + 1 ∧ Aside0 (Dyn Wr Wb wr b9 b10 b11 G (some ⟨G, 0, none⟩) cG most.length (firstF V pre (most.drop (k + 1)) s j) (pre ++ (j : Int) :: List.replicate d 0))) (fun wr => (m + 1 - cellInt wr ⟨G, k, none⟩).toNat)
    case atStart => exact ⟨0, by omega, HD⟩
    case round =>
      obtain ⟨j, hj, HJ⟩ := hrel
      have hD := HJ.out
      have cm1 : wr.cell? ⟨bm, 0, none⟩ = some (.slice (some ad) most.length cm) := blk_cell (blk_kept hS.hm hD.K hS.nm) 0
      have cx1 : wr.cell? ⟨bx, 0, none⟩ = some (.slice (some ⟨G, 0, none⟩) most.length cG) := blk_cell (blk_kept hS.hx hD.K hS.nx) 0
      have cv1 : wr.cell? ⟨bv, 0, none⟩ = some (.func (Fn.func 115) #[] #[.pointer (some ⟨bm, 0, none⟩), .pointer (some ⟨bf, 0, none⟩), .pointer (some ⟨bx, 0, none⟩), .pointer (some ⟨bv, 0, none⟩)]) := blk_cell (blk_kept hS.hv hD.K hS.nv) 0
      obtain ⟨cG1, zG1⟩ := hD.cell rfl k hlt
      rw [hget] at cG1
      have HN : Aside0 (cellInt wr ⟨G, k, none⟩ = (j : Int)) := ⟨by rw [cellInt, cG1]⟩
      have cmk : wr.cell? (ad.add k) = some (.int .i64 m) := (hD.B.cell (World.block_lt_of_cell? Wr _ hmc)).trans hmc
      clear hD
      by_cases hjm : (j : Int) ≤ m
      · have d1 : decide ((j : Int) ≤ m) = true := decide_eq_true hjm
        go_wp2_with fail
        go_quiet (fail)
        have hD2 := HJ.out.drewN nq
        clear cm1 cx1 cv1 cG1 zG1 cmk HJ
        generalize wr.drewN nq = wz at *
        have cv1 : wz.cell? ⟨bv, 0, none⟩ = some (.func (Fn.func 115) #[] #[.pointer (some ⟨bm, 0, none⟩), .pointer (some ⟨bf, 0, none⟩), .pointer (some ⟨bx, 0, none⟩), .pointer (some ⟨bv, 0, none⟩)]) := blk_cell (blk_kept hS.hv hD2.K hS.nv) 0
        have HIH := Aside0.mk (ih (k + 1) (pre ++ [(j : Int)]) _ wz (by omega) (by simp; omega) (HV.out j hjm) (by rw [← hass]; exact hD2))
        rw [← hass, ← firstF_succ] at HIH
        have hw : IntKind.i64.wrap ((k : Int) + 1) = ((k + 1 : Nat) : Int) := by have := hS.hs; simp only [i64_w]; unfold wrap64; omega
        clear hD2
        go_wp2_with fail
        refine HIH.out.mono ?_
        rintro e w2 ⟨⟨r, rfl⟩, hD3⟩
        clear cv1 hw HIH
        have cx2 : w2.cell? ⟨bx, 0, none⟩ = some (.slice (some ⟨G, 0, none⟩) most.length cG) := blk_cell (blk_kept hS.hx hD3.K hS.nx) 0
        obtain ⟨cG2, zG2⟩ := hD3.cell rfl k hlt
        rw [hget] at cG2
        have hw2 : IntKind.i64.wrap ((j : Int) + 1) = ((j + 1 : Nat) : Int) := by simp only [i64_w]; unfold wrap64; omega
        have hD4 := hD3.put hS k hlt ((j + 1 : Nat) : Int)
        rw [hset] at hD4
        have HD4 := Aside0.mk hD4
        clear hD3 hD4
        go_wp2_with fail
        go_roundw
        case rel => exact ⟨j + 1, by omega, HD4⟩
        case measure =>
          have hc := (HD4.out.cell rfl k hlt).1
          rw [hget] at hc
          have hc' : (w2.setCell ⟨G, k, none⟩ (.int .i64 ((j : Int) + 1))).cell? ⟨G, k, none⟩ = some (.int .i64 ((j : Int) + 1)) := hc
          have hc2 : cellInt (w2.setCell ⟨G, k, none⟩ (.int .i64 ((j : Int) + 1))) ⟨G, k, none⟩ = (j : Int) + 1 := by rw [cellInt, hc']
          rw [HN.out, hc2]
          omega
      · have d1 : decide ((j : Int) ≤ m) = false := decide_eq_false hjm
        go_wp2_with fail
        go_quiet (fail)
        have hD2 := HJ.out.drewN nq
        clear cm1 cx1 cv1 cG1 zG1 cmk HJ
        generalize wr.drewN nq = wz at *
        have cx2 : wz.cell? ⟨bx, 0, none⟩ = some (.slice (some ⟨G, 0, none⟩) most.length cG) := blk_cell (blk_kept hS.hx hD2.K hS.nx) 0
        obtain ⟨cG2, zG2⟩ := hD2.cell rfl k hlt
        rw [hget] at cG2
        have hD4 := hD2.put hS k hlt 0
        rw [hset] at hD4
        have HD4 := Aside0.mk hD4
        clear hD2 hD4
        go_wp2_with fail
        first | go_end0 | ((try simp only [Exit.inBlock, Exit.then]); refine bodyPost_ret (results_none rfl _ _ _) rfl ?_)
        refine ⟨⟨_, rfl⟩, ?_⟩
        rw [visitF_cons, show (m + 1).toNat = j by omega]
        exact HD4.out
theorem two_new (W : World) (o1 o2 : Obj) : ((W.alloc o1).alloc o2).heap[W.heap.size]? = some o1 ∧ ((W.alloc o1).alloc o2).heap[W.heap.size + 1]? = some o2 :=
  ⟨blk_alloc (blk_new W o1) o2, by have h := blk_new (W.alloc o1) o2; rwa [show (W.alloc o1).heap.size = W.heap.size + 1 by simp] at h⟩
theorem four_new (W : World) (o1 o2 o3 o4 : Obj) : ((((W.alloc o1).alloc o2).alloc o3).alloc o4).heap[W.heap.size]? = some o1 ∧ ((((W.alloc o1).alloc o2).alloc o3).alloc o4).heap[W.heap.size + 1]? = some o2 ∧
    ((((W.alloc o1).alloc o2).alloc o3).alloc o4).heap[W.heap.size + 1 + 1]? = some o3 ∧ ((((W.alloc o1).alloc o2).alloc o3).alloc o4).heap[W.heap.size + 1 + 1 + 1]? = some o4 := by
  have h1 := two_new W o1 o2
  have h2 := two_new ((W.alloc o1).alloc o2) o3 o4
  rw [show ((W.alloc o1).alloc o2).heap.size = W.heap.size + 1 + 1 by simp] at h2
  exact ⟨blk_alloc (blk_alloc h1.1 _) _, blk_alloc (blk_alloc h1.2 _) _, h2.1, h2.2⟩
/-- The worlds ahead of the search's first step. -/
def evW2 (Wa : World) (b7 b9 b10 b11 cm : Nat) (Am : Option Addr) (len : Nat) : World :=
  (Wa.alloc (.cells #[.slice Am len cm] 22)).alloc (.cells #[.func (Fn.func 70) #[] #[.pointer (some ⟨b7, 0, none⟩), .pointer (some ⟨b10, 0, none⟩), .pointer (some ⟨b9, 0, none⟩), .pointer (some ⟨b11, 0, none⟩)]] 117)
def evWb (Wa w1 : World) (AG : Option Addr) (cG len : Nat) : World :=
  (w1.alloc (.cells #[.slice AG len cG] 22)).alloc (.cells #[.func (Fn.func 115) #[] #[.pointer (some ⟨Wa.heap.size, 0, none⟩), .pointer (some ⟨Wa.heap.size + 1, 0, none⟩), .pointer (some ⟨w1.heap.size, 0, none⟩), .pointer (some ⟨w1.heap.size + 1, 0, none⟩)]] 163)
theorem make_at {w : World} {base n cG G : Nat} {AG : Option Addr} (hu : Kd.R (Kd.int .i64) 3 w base (fun _ => True) (.slice AG n cG) (List.replicate n 0)) (hown : (Value.slice AG n cG).ownBlock = some G) : 0 < n → AG = some ⟨G, 0, none⟩ := by
  intro hn
  obtain ⟨g, cap, hv, _⟩ := Kd.R_form hu (by rw [List.length_replicate]; exact hn)
  injection hv with h1 h2 h3
  subst h1
  simp [Value.ownBlock] at hown
  rw [hown]
theorem Solve_setup {Wr Wa w1 : World} {b7 b9 b10 b11 G cm cG c1 c2 : Nat} {Am A1 A2 AG : Option Addr} {n const : Int} {rows : List S96} {goal : List S109} {most : List Int}
    (hB : Below Wr.heap.size Wr Wa)
    (h7 : Wa.heap[b7]? = some (.cells #[.int .i64 n, .slice A1 rows.length c1, .slice A2 goal.length c2, .int .i64 const] 29 (0, 0)))
    (h9 : Wa.heap[b9]? = some (.cells #[.int .i64 0] 3 (0, 0))) (h10 : Wa.heap[b10]? = some (.cells #[.bool false] 4 (0, 0))) (h11 : Wa.heap[b11]? = some (.cells #[.slice none 0 0] 22 (0, 0)))
    (l9 : Wr.heap.size ≤ b9) (l10 : Wr.heap.size ≤ b10) (l11 : Wr.heap.size ≤ b11)
    (r1 : Kd.C k96 Wr A1 rows.length rows) (r2 : Kd.C k109 Wr A2 goal.length goal) (rm : Kd.C (Kd.int .i64) Wr Am most.length most)
    (hc1 : rows.length ≤ c1) (hc2 : goal.length ≤ c2) (hcm : most.length ≤ cm) (hs : most.length * 8 ≤ 140737488355328) (hb : ∀ m ∈ most, 0 ≤ m ∧ m ≤ 1048576)
    (hu : Kd.R (Kd.int .i64) 3 w1 (evW2 Wa b7 b9 b10 b11 cm Am most.length).heap.size (fun _ => True) (.slice AG most.length cG) (List.replicate most.length 0))
    (hb1 : Below (evW2 Wa b7 b9 b10 b11 cm Am most.length).heap.size (evW2 Wa b7 b9 b10 b11 cm Am most.length) w1)
    (hown : (Value.slice AG most.length cG).ownBlock = some G) (hA : 0 < most.length → AG = some ⟨G, 0, none⟩) (hG1 : (evW2 Wa b7 b9 b10 b11 cm Am most.length).heap.size ≤ G) (hG2 : G < w1.heap.size) :
    Stat Wr (evWb Wa w1 AG cG most.length) b7 b9 b10 b11 Wa.heap.size (Wa.heap.size + 1) w1.heap.size (w1.heap.size + 1) G cm cG c1 c2 Am A1 A2 AG n const rows goal most ∧
    Dyn Wr (evWb Wa w1 AG cG most.length) (evWb Wa w1 AG cG most.length) b9 b10 b11 G AG cG most.length (0, false, []) (List.replicate most.length 0) := by
  have hsz : (evW2 Wa b7 b9 b10 b11 cm Am most.length).heap.size = Wa.heap.size + 2 := by simp [evW2]
  have hszb : (evWb Wa w1 AG cG most.length).heap.size = w1.heap.size + 2 := by simp [evWb]
  have p0 : Below Wa.heap.size Wa (evW2 Wa b7 b9 b10 b11 cm Am most.length) := below_alloc (below_alloc (Below.refl _ _) _) _
  have p1 : Below Wa.heap.size Wa w1 := p0.trans (hb1.mono p0.size)
  have p2 : Below w1.heap.size w1 (evWb Wa w1 AG cG most.length) := below_alloc (below_alloc (Below.refl _ _) _) _
  have p3 : Below Wa.heap.size Wa (evWb Wa w1 AG cG most.length) := p1.trans (p2.mono p1.size)
  have z1 := p1.size
  have zr := hB.size
  have q9 := blk_lt h9
  have q10 := blk_lt h10
  have q11 := blk_lt h11
  have q7 := blk_lt h7
  rw [hsz] at hG1
  have m0 : (evW2 Wa b7 b9 b10 b11 cm Am most.length).heap[Wa.heap.size]? = some (.cells #[.slice Am most.length cm] 22 (0, 0)) := (two_new Wa _ _).1
  have m1 : (evW2 Wa b7 b9 b10 b11 cm Am most.length).heap[Wa.heap.size + 1]? = some (.cells #[.func (Fn.func 70) #[] #[.pointer (some ⟨b7, 0, none⟩), .pointer (some ⟨b10, 0, none⟩), .pointer (some ⟨b9, 0, none⟩), .pointer (some ⟨b11, 0, none⟩)]] 117 (0, 0)) := (two_new Wa _ _).2
  have x0 : (evWb Wa w1 AG cG most.length).heap[w1.heap.size]? = some (.cells #[.slice AG most.length cG] 22 (0, 0)) := (two_new w1 _ _).1
  have x1 : (evWb Wa w1 AG cG most.length).heap[w1.heap.size + 1]? = some (.cells #[.func (Fn.func 115) #[] #[.pointer (some ⟨Wa.heap.size, 0, none⟩), .pointer (some ⟨Wa.heap.size + 1, 0, none⟩), .pointer (some ⟨w1.heap.size, 0, none⟩), .pointer (some ⟨w1.heap.size + 1, 0, none⟩)]] 163 (0, 0)) := (two_new w1 _ _).2
  have w0 := (p2.block _ (by omega)).trans ((hb1.block _ (by omega)).trans m0)
  have w1' := (p2.block _ (by omega)).trans ((hb1.block _ (by omega)).trans m1)
  have n79 : b7 ≠ b9 := blk_ne h7 h9 (by decide)
  have n710 : b7 ≠ b10 := blk_ne h7 h10 (by decide)
  have n711 : b7 ≠ b11 := blk_ne h7 h11 (by decide)
  have hB3 := hB.trans (p3.mono zr)
  refine ⟨⟨(p3.block _ q7).trans h7, w0, w1', x0, x1, ?_, ?_, ?_, ?_, ?_, ?_, ?_, ?_, ⟨l9, by omega⟩, ⟨l10, by omega⟩, ⟨l11, by omega⟩, ⟨by omega, by omega⟩, r1, r2, rm, hc1, hc2, hcm, hs, hA, hb⟩, ⟨hB3, Kept.refl _ _, ⟨(p3.block _ q9).trans h9, (p3.block _ q10).trans h10, _, (p3.block _ q11).trans h11, Kd.R_nil _ _ _ _ _⟩, ?_⟩⟩
  · unfold Wr4; omega
  · unfold Wr4; omega
  · unfold Wr4; omega
  · unfold Wr4; omega
  · unfold Wr4; omega
  · omega
  · omega
  · omega
  · exact Kd.R_lower (Kd.R_below (Kd.R_of_own (Kd.own_of_R hu) (fun k hk => Option.some.inj (hk.symm.trans hown))) p2) (Nat.zero_le _)
set_option maxHeartbeats 4000000 in
set_option maxRecDepth 100000 in
theorem Solve_every {Wr Wa : World} {b7 b9 b10 b11 cm c1 c2 : Nat} {Am A1 A2 : Option Addr} {n const : Int} {rows : List S96} {goal : List S109} {most : List Int}
    (hB : Below Wr.heap.size Wr Wa)
    (h7 : Wa.heap[b7]? = some (.cells #[.int .i64 n, .slice A1 rows.length c1, .slice A2 goal.length c2, .int .i64 const] 29 (0, 0)))
    (h9 : Wa.heap[b9]? = some (.cells #[.int .i64 0] 3 (0, 0))) (h10 : Wa.heap[b10]? = some (.cells #[.bool false] 4 (0, 0))) (h11 : Wa.heap[b11]? = some (.cells #[.slice none 0 0] 22 (0, 0)))
    (l9 : Wr.heap.size ≤ b9) (l10 : Wr.heap.size ≤ b10) (l11 : Wr.heap.size ≤ b11)
    (r1 : Kd.C k96 Wr A1 rows.length rows) (r2 : Kd.C k109 Wr A2 goal.length goal) (rm : Kd.C (Kd.int .i64) Wr Am most.length most)
    (hc1 : rows.length ≤ c1) (hc2 : goal.length ≤ c2) (hcm : most.length ≤ cm) (hs : most.length * 8 ≤ 140737488355328) (hb : ∀ m ∈ most, 0 ≤ m ∧ m ≤ 1048576)
    (kv : Nat) (V : List Int → Int × Bool) (hV : ∀ y ∈ grid most, integer_Value.f kv n rows goal const y = some (V y)) :
    Calls Try.prog 69 #[.slice Am most.length cm, .func (Fn.func 70) #[] #[.pointer (some ⟨b7, 0, none⟩), .pointer (some ⟨b10, 0, none⟩), .pointer (some ⟨b9, 0, none⟩), .pointer (some ⟨b11, 0, none⟩)]] Wa fun e W' => (∃ r, e = .returned r) ∧ Below Wr.heap.size Wr W' ∧ ∃ base, Wr.heap.size ≤ base ∧ Srch W' base b9 b10 b11 ((grid most).foldl (stepV V) (0, false, [])) := by
  have HS := Aside0.mk (fun (w1 : World) (AG : Option Addr) (G cG : Nat) hu hb1 hown hA hG1 hG2 => Solve_setup (Wr := Wr) (Wa := Wa) (w1 := w1) (G := G) (AG := AG) (cG := cG) hB h7 h9 h10 h11 l9 l10 l11 r1 r2 rm hc1 hc2 hcm hs hb hu hb1 hown hA hG1 hG2)
  have HV := Aside0.mk hV
  have HZ := Aside0.mk hB.size
  clear h7 h9 h10 h11 l9 l10 l11 r1 r2 rm hV hB
  have hmf : ∀ (fn : Fn) (first cap : Array Value) (w : World), (Instr.makeFunc fn first cap).run Try.prog w = .ok (.func fn first cap) w := fun _ _ _ _ => rfl
  have hst : ∀ (p : Addr) (fn : Fn) (first cap : Array Value) (m : Mode) (w : World), (store p (.func fn first cap) m).run Try.prog w = stored Try.prog w p (.func fn first cap) m := fun p fn first cap m w => run_store _ w p _ m rfl
  go_enter Try.func69, Try.ntmps69
  go_wp2_with ((with_reducible refine gate_dst (N := 8) rfl ?_); refine Kd.R_make (Kd.int .i64) _ 3 rfl (N := 8) rfl 22 _ _ rfl (most.length : Int) rfl rfl Try.underlying22 (.int .i64 0) 8 info3 rfl (by decide) (by omega) 0 (ok := fun _ => True) (okp := fun _ => True) rfl (fun _ hk => hk) trivial (by omega) (by omega) (Below.refl _ _) (Nat.le_refl _) ?_; intro v1 w1 hu hb hg hv; rw [Int.toNat_natCast] at hu; obtain ⟨AG, cG, hv1⟩ := Kd.R_slice hu; rw [List.length_replicate] at hv1; subst hv1; obtain ⟨G, hown, hG1⟩ := hv; have HA := Aside0.mk (make_at hu hown); have HU := Aside0.mk hu; have HB1 := Aside0.mk hb; have HO := Aside0.mk hown; have HG := Aside0.mk (And.intro hG1 (Kd.R_lt hu G hown)); clear hu hb hg hown hG1)
  obtain ⟨hStat, hDyn⟩ := HS.out w1 AG G cG HU.out HB1.out HO.out HA.out HG.out.1 HG.out.2
  refine (Solve_visit hStat kv V most.length 0 [] _ _ (by omega) rfl (by rw [List.drop_zero]; exact HV.out) hDyn).mono ?_
  rintro e w2 ⟨⟨r, rfl⟩, hD⟩
  rw [List.drop_zero] at hD
  have HD := Aside0.mk hD
  have HQ := Aside0.mk hStat.lG
  clear hD hDyn hStat
  go_wp2_with fail
  first | go_end0 | ((try simp only [Exit.inBlock, Exit.then]); refine bodyPost_ret (results_none rfl _ _ _) rfl ?_)
  exact ⟨⟨_, rfl⟩, HD.out.B, _, Nat.le_of_lt (Nat.lt_of_le_of_lt HQ.out.1 HQ.out.2), HD.out.S⟩
/-- The value of columns, as the program tells it. -/
def valF (k : Nat) (n : Int) (rows : List S96) (goal : List S109) (const : Int) (y : List Int) : Int × Bool := (integer_Value.f k n rows goal const y).getD (0, false)
def solveS (k : Nat) (n : Int) (rows : List S96) (goal : List S109) (const : Int) (most : List Int) : Int × Bool × List Int := (grid most).foldl (stepV (valF k n rows goal const)) (0, false, [])
def solveOk (k : Nat) (n : Int) (rows : List S96) (goal : List S109) (const : Int) (most : List Int) : Bool :=
  ((grid most).all fun y => (integer_Value.f k n rows goal const y).isSome) && decide (most.length * 8 ≤ 140737488355328) && (most.all fun m => decide (0 ≤ m) && decide (m ≤ 1048576))
def integer_Solve.f (k : Nat) (n : Int) (rows : List S96) (goal : List S109) (const : Int) (most : List Int) : Option (Int × List Int × Int) :=
  (integer_Boxed.f k n rows goal const most).bind fun b =>
    if b.2.2.2.2 = 0 then
      if solveOk k b.1 b.2.1 b.2.2.1 b.2.2.2.1 most = true then
        if (solveS k b.1 b.2.1 b.2.2.1 b.2.2.2.1 most).2.1 = true then some ((solveS k b.1 b.2.1 b.2.2.1 b.2.2.2.1 most).1, (solveS k b.1 b.2.1 b.2.2.1 b.2.2.2.1 most).2.2, 0) else some (0, [], 34)
      else none
    else some (0, [], b.2.2.2.2)
theorem valF_mono (k : Nat) (n : Int) (rows : List S96) (goal : List S109) (const : Int) (y : List Int) (h : (integer_Value.f k n rows goal const y).isSome = true) : integer_Value.f (k + 1) n rows goal const y = integer_Value.f k n rows goal const y := by
  obtain ⟨r, hr⟩ := Option.isSome_iff_exists.1 h
  rw [hr]
  exact integer_Value.mono _ _ _ _ _ k r hr
theorem solve_mono (k : Nat) (n : Int) (rows : List S96) (goal : List S109) (const : Int) (most : List Int) (h : solveOk k n rows goal const most = true) :
    solveOk (k + 1) n rows goal const most = true ∧ solveS (k + 1) n rows goal const most = solveS k n rows goal const most := by
  simp only [solveOk, Bool.and_eq_true] at h ⊢
  obtain ⟨⟨h1, h3⟩, h4⟩ := h
  have h5 := List.all_eq_true.1 h1
  refine ⟨⟨⟨List.all_eq_true.2 fun y hy => by rw [valF_mono k n rows goal const y (h5 y hy)]; exact h5 y hy, h3⟩, h4⟩, ?_⟩
  unfold solveS
  have : ∀ (l : List (List Int)), (∀ y ∈ l, (integer_Value.f k n rows goal const y).isSome = true) → ∀ s, l.foldl (stepV (valF (k + 1) n rows goal const)) s = l.foldl (stepV (valF k n rows goal const)) s := by
    intro l
    induction l with
    | nil => intro _ s; rfl
    | cons a l ih =>
      intro hl s
      rw [List.foldl_cons, List.foldl_cons, ih (fun y hy => hl y (List.mem_cons_of_mem _ hy))]
      congr 1
      unfold stepV valF
      rw [valF_mono k n rows goal const a (hl a List.mem_cons_self)]
  exact this _ h5 _
theorem integer_Solve.mono : ∀ a0 a1 a2 a3 a4 k, LeO (integer_Solve.f k a0 a1 a2 a3 a4) (integer_Solve.f (k + 1) a0 a1 a2 a3 a4) := by
  intro a0 a1 a2 a3 a4 k r h
  unfold integer_Solve.f at h ⊢
  obtain ⟨b, hb, h⟩ := Option.bind_eq_some_iff.1 h
  rw [integer_Boxed.mono _ _ _ _ _ k b hb]
  simp only [Option.bind_some]
  split at h
  · split at h
    · rename_i h1 h2
      obtain ⟨h3, h4⟩ := solve_mono k _ _ _ _ _ h2
      rw [if_pos h1, if_pos h3, h4]
      exact h
    · cases h
  · rename_i h1
    rw [if_neg h1]
    exact h
set_option maxHeartbeats 4000000 in
set_option maxRecDepth 100000 in
theorem integer_Solve.calls (k : Nat) (a0_0 : Int) (A0_1 : Option Addr) (c0_1 : Nat) (l0_1 : List S96) (A0_2 : Option Addr) (c0_2 : Nat) (l0_2 : List S109) (a0_3 : Int) (A1 : Option Addr) (c1 : Nat) (l1 : List Int) (r1 : Int) (r2 : List Int) (r3 : Int) (w : World) (hr0_1 : Kd.C k96 w A0_1 l0_1.length l0_1) (hc0_1 : l0_1.length ≤ c0_1) (hr0_2 : Kd.C k109 w A0_2 l0_2.length l0_2) (hc0_2 : l0_2.length ≤ c0_2) (hr1 : Kd.C (Kd.int .i64) w A1 l1.length l1) (hc1 : l1.length ≤ c1) (h : integer_Solve.f k a0_0 l0_1 l0_2 a0_3 l1 = some (r1, r2, r3)) :
    Calls Try.prog 22 #[.agg #[.int .i64 a0_0, .slice A0_1 l0_1.length c0_1, .slice A0_2 l0_2.length c0_2, .int .i64 a0_3], .slice A1 l1.length c1] w fun e w' => ∃ v1_ : Value, e = .returned (.tuple #[.int .i64 r1, v1_, .int .i64 r3]) ∧ Kd.R (Kd.int .i64) 3 w' w.heap.size (fun _ => True) v1_ r2 ∧ Below w.heap.size w w' := by
  unfold integer_Solve.f at h
  obtain ⟨⟨b1, b2, b3, b4, b5⟩, hb, h⟩ := Option.bind_eq_some_iff.1 h
  have hmf : ∀ (fn : Fn) (first cap : Array Value) (w : World), (Instr.makeFunc fn first cap).run Try.prog w = .ok (.func fn first cap) w := fun _ _ _ _ => rfl
  have hu29 := Try.underlying29
  have HX := Aside0.mk (fun V (hv : Below w.heap.size w V) => integer_Boxed.calls k a0_0 A0_1 c0_1 l0_1 A0_2 c0_2 l0_2 a0_3 A1 c1 l1 b1 b2 b3 b4 b5 V (Kd.C_below hr0_1 hv) hc0_1 (Kd.C_below hr0_2 hv) hc0_2 (Kd.C_below hr1 hv) hc1 hb)
  have HM := Aside0.mk hr1
  have HH := Aside0.mk h
  clear hr0_1 hr0_2 hr1 h hb
  go_enter Try.func22, Try.ntmps22
  go_wp2_with fail
  refine (HX.out _ (below_alloc (Below.refl _ _) _)).mono ?_
  rintro e w1 ⟨v1, v2, rfl, hS1, hR2, hb1⟩
  obtain ⟨A1', c1', rfl, hle1, hC1⟩ := Kd.S_reads hS1
  obtain ⟨A2', c2', rfl, hle2, hC2⟩ := Kd.R_reads hR2
  have HB := Aside0.mk (below_step (below_alloc (Below.refl _ _) _) hb1)
  have HC1 := Aside0.mk hC1
  have HC2 := Aside0.mk hC2
  clear hS1 hR2 hb1 hC1 hC2
  have H := HH.out
  clear HH
  by_cases c5 : b5 = 0
  · rw [if_pos c5] at H
    have d1 : (b5 != 0) = false := by simp [c5]
    have HH := Aside0.mk H
    clear H c5
    go_wp2_with fail
    have H := HH.out
    clear HH
    have hok : solveOk k b1 b2 b3 b4 l1 = true := by
      by_cases ho : solveOk k b1 b2 b3 b4 l1 = true
      · exact ho
      · rw [if_neg ho] at H; cases H
    rw [if_pos hok] at H
    have HH := Aside0.mk H
    clear H
    have hoo := hok
    simp only [solveOk, Bool.and_eq_true, decide_eq_true_eq] at hoo
    obtain ⟨⟨ho1, ho3⟩, ho4⟩ := hoo
    obtain ⟨f7, f9, f10, f11⟩ := four_new w1 (.cells #[.int .i64 b1, .slice A1' b2.length c1', .slice A2' b3.length c2', .int .i64 b4] 29) (.cells #[.int .i64 0] 3) (.cells #[.bool false] 4) (.cells #[.slice none 0 0] 22)
    have hV : ∀ y ∈ grid l1, integer_Value.f k b1 b2 b3 b4 y = some (valF k b1 b2 b3 b4 y) := fun y hy => by
      obtain ⟨r, hr⟩ := Option.isSome_iff_exists.1 (List.all_eq_true.1 ho1 y hy)
      rw [valF, hr]; rfl
    refine (Solve_every (Wr := w1) (below_alloc (below_alloc (below_alloc (below_alloc (Below.refl _ _) _) _) _) _) f7 f9 f10 f11 (by omega) (by omega) (by omega) HC1.out HC2.out (Kd.C_below HM.out HB.out) hle1 hle2 hc1 ho3 (fun m hm => by have := List.all_eq_true.1 ho4 m hm; simpa using this) k _ hV).mono ?_
    rintro e w2 ⟨⟨r, rfl⟩, hB2, base, hbase, hS⟩
    change Srch w2 base _ _ _ (solveS k b1 b2 b3 b4 l1) at hS
    generalize solveS k b1 b2 b3 b4 l1 = s at *
    obtain ⟨s1, s2, s3⟩ := s
    obtain ⟨q9, q10, u, q11, su⟩ := hS
    obtain ⟨Au, cu, rfl, hcu, hru⟩ := Kd.R_reads su
    have t9 : w2.cell? ⟨w1.heap.size + 1, 0, none⟩ = some (.int .i64 s1) := blk_cell q9 0
    have t10 : w2.cell? ⟨w1.heap.size + 1 + 1, 0, none⟩ = some (.bool s2) := blk_cell q10 0
    have t11 : w2.cell? ⟨w1.heap.size + 1 + 1 + 1, 0, none⟩ = some (.slice Au s3.length cu) := blk_cell q11 0
    have HS := Aside0.mk (Kd.R_lower (base' := w.heap.size) su (Nat.le_trans HB.out.size hbase))
    have HB3 := Aside0.mk (HB.out.trans (hB2.mono HB.out.size))
    clear q9 q10 q11 su hru hB2 f7 f9 f10 f11 hV ho1 ho4 hok
    cases s2 with
    | true =>
      have H := HH.out
      rw [if_pos rfl] at H
      simp only [Option.some.injEq, Prod.mk.injEq] at H
      obtain ⟨rfl, rfl, rfl⟩ := H
      go_wp2_with fail
      go_quiet (fail)
      go_wp2_with fail
      refine bodyPost_ret (results_tmp3 rfl _ _ _) rfl ?_
      exact ⟨_, rfl, Kd.R_drewN HS.out _, pw_below_drewN HB3.out _⟩
    | false =>
      have H := HH.out
      rw [if_neg (by simp)] at H
      simp only [Option.some.injEq, Prod.mk.injEq] at H
      obtain ⟨rfl, rfl, rfl⟩ := H
      go_wp2_with fail
      refine bodyPost_ret (results_tmp3 rfl _ _ _) rfl ?_
      exact ⟨_, rfl, Kd.R_nil _ _ _ _ _, HB3.out⟩
  · rw [if_neg c5] at H
    have d1 : (b5 != 0) = true := by simp [c5]
    simp only [Option.some.injEq, Prod.mk.injEq] at H
    obtain ⟨rfl, rfl, rfl⟩ := H
    go_wp2_with fail
    refine bodyPost_ret (results_tmp3 rfl _ _ _) rfl ?_
    exact ⟨_, rfl, Kd.R_nil _ _ _ _ _, below_alloc HB.out _⟩

/-! ### timeboundlaw33_awake: function 15 -/
def timeboundlaw33_awake.f (k : Nat)  : Option (Bool) := (integer_Solve.f k 2 (([(⟨(([(⟨0, 2⟩ : S109), (⟨1, 2⟩ : S109)] : List (S109))), 3⟩ : S96)] : List (S96))) (([(⟨0, 1⟩ : S109), (⟨1, 1⟩ : S109)] : List (S109))) 0 (([3, 3] : List Int))).bind fun bt149 => (if bt149.2.2 = 0 then (if bt149.1 = 1 then (if (bt149.2.1.length : Int) = 2 then (if 0 < (bt149.2.1.length : Int) then (if (rd bt149.2.1 0) = 0 then (if 1 < (bt149.2.1.length : Int) then (some ((rd bt149.2.1 1) == 1)) else (none)) else (some false)) else (none)) else (some false)) else (some false)) else (some false))
theorem timeboundlaw33_awake.mono : ∀ k, LeO (timeboundlaw33_awake.f k ) (timeboundlaw33_awake.f (k + 1) ) := by
  intro  k
  unfold timeboundlaw33_awake.f
  repeat' first
      | (with_reducible exact integer_Solve.mono _ _ _ _ _ _)
      | (with_reducible exact LeO.refl _)
      | (with_reducible exact LeO.none _)
      | (with_reducible refine LeO.ite ?_ ?_)
      | (with_reducible refine LeO.bind ?_ (fun _ => ?_))
      | exact integer_Solve.mono _ _ _ _ _ _
      | exact LeO.none _
      | refine LeO.ite ?_ ?_
      | refine LeO.bind ?_ (fun _ => ?_)
set_option maxHeartbeats 8000000 in
set_option maxRecDepth 100000 in
theorem timeboundlaw33_awake.calls (k : Nat)  (r : Bool) (w : World) (h : timeboundlaw33_awake.f k  = some r) :
    Calls Try.prog 15 #[] w fun e w' => e = .returned (.bool r) ∧ Below w.heap.size w w' := by
  have hu109 := Try.underlying109
  have hu96 := Try.underlying96
  have hu29 := Try.underlying29
  have HB := Aside0.mk (Below.refl w.heap.size w)
  have H : ((integer_Solve.f k 2 (([(⟨(([(⟨0, 2⟩ : S109), (⟨1, 2⟩ : S109)] : List (S109))), 3⟩ : S96)] : List (S96))) (([(⟨0, 1⟩ : S109), (⟨1, 1⟩ : S109)] : List (S109))) 0 (([3, 3] : List Int))).bind fun bt149 => (if bt149.2.2 = 0 then (if bt149.1 = 1 then (if (bt149.2.1.length : Int) = 2 then (if 0 < (bt149.2.1.length : Int) then (if (rd bt149.2.1 0) = 0 then (if 1 < (bt149.2.1.length : Int) then (some ((rd bt149.2.1 1) == 1)) else (none)) else (some false)) else (none)) else (some false)) else (some false)) else (some false))) = some r := h
  clear h
  obtain ⟨y136, hy136⟩ : ∃ y_ : List (S109), y_ = (([(⟨0, 1⟩ : S109), (⟨1, 1⟩ : S109)] : List (S109))) := ⟨_, rfl⟩
  replace H : ((integer_Solve.f k 2 (([(⟨(([(⟨0, 2⟩ : S109), (⟨1, 2⟩ : S109)] : List (S109))), 3⟩ : S96)] : List (S96))) y136 0 (([3, 3] : List Int))).bind fun bt149 => (if bt149.2.2 = 0 then (if bt149.1 = 1 then (if (bt149.2.1.length : Int) = 2 then (if 0 < (bt149.2.1.length : Int) then (if (rd bt149.2.1 0) = 0 then (if 1 < (bt149.2.1.length : Int) then (some ((rd bt149.2.1 1) == 1)) else (none)) else (some false)) else (none)) else (some false)) else (some false)) else (some false))) = some r := by first | (rw [hy136]; with_reducible exact H) | (have H2_ := (Option.bind_some _ _).symm.trans H; rw [hy136]; with_reducible exact H2_) | (have H2_ := (Option.bind_some _ _).symm.trans H; with_reducible exact H2_) | with_reducible exact H | (rw [hy136]; exact H) | exact H
  have Ny136 := Aside0.mk hy136
  clear hy136
  obtain ⟨y139, hy139⟩ : ∃ y_ : List (S109), y_ = (([(⟨0, 2⟩ : S109), (⟨1, 2⟩ : S109)] : List (S109))) := ⟨_, rfl⟩
  replace H : ((integer_Solve.f k 2 (([(⟨y139, 3⟩ : S96)] : List (S96))) y136 0 (([3, 3] : List Int))).bind fun bt149 => (if bt149.2.2 = 0 then (if bt149.1 = 1 then (if (bt149.2.1.length : Int) = 2 then (if 0 < (bt149.2.1.length : Int) then (if (rd bt149.2.1 0) = 0 then (if 1 < (bt149.2.1.length : Int) then (some ((rd bt149.2.1 1) == 1)) else (none)) else (some false)) else (none)) else (some false)) else (some false)) else (some false))) = some r := by first | (rw [hy139]; with_reducible exact H) | (have H2_ := (Option.bind_some _ _).symm.trans H; rw [hy139]; with_reducible exact H2_) | (have H2_ := (Option.bind_some _ _).symm.trans H; with_reducible exact H2_) | with_reducible exact H | (rw [hy139]; exact H) | exact H
  have Ny139 := Aside0.mk hy139
  clear hy139
  obtain ⟨y142, hy142⟩ : ∃ y_ : List (S96), y_ = (([(⟨y139, 3⟩ : S96)] : List (S96))) := ⟨_, rfl⟩
  replace H : ((integer_Solve.f k 2 y142 y136 0 (([3, 3] : List Int))).bind fun bt149 => (if bt149.2.2 = 0 then (if bt149.1 = 1 then (if (bt149.2.1.length : Int) = 2 then (if 0 < (bt149.2.1.length : Int) then (if (rd bt149.2.1 0) = 0 then (if 1 < (bt149.2.1.length : Int) then (some ((rd bt149.2.1 1) == 1)) else (none)) else (some false)) else (none)) else (some false)) else (some false)) else (some false))) = some r := by first | (rw [hy142]; with_reducible exact H) | (have H2_ := (Option.bind_some _ _).symm.trans H; rw [hy142]; with_reducible exact H2_) | (have H2_ := (Option.bind_some _ _).symm.trans H; with_reducible exact H2_) | with_reducible exact H | (rw [hy142]; exact H) | exact H
  have Ny142 := Aside0.mk hy142
  clear hy142
  obtain ⟨y146, hy146⟩ : ∃ y_ : List Int, y_ = (([3, 3] : List Int)) := ⟨_, rfl⟩
  replace H : ((integer_Solve.f k 2 y142 y136 0 y146).bind fun bt149 => (if bt149.2.2 = 0 then (if bt149.1 = 1 then (if (bt149.2.1.length : Int) = 2 then (if 0 < (bt149.2.1.length : Int) then (if (rd bt149.2.1 0) = 0 then (if 1 < (bt149.2.1.length : Int) then (some ((rd bt149.2.1 1) == 1)) else (none)) else (some false)) else (none)) else (some false)) else (some false)) else (some false))) = some r := by first | (rw [hy146]; with_reducible exact H) | (have H2_ := (Option.bind_some _ _).symm.trans H; rw [hy146]; with_reducible exact H2_) | (have H2_ := (Option.bind_some _ _).symm.trans H; with_reducible exact H2_) | with_reducible exact H | (rw [hy146]; exact H) | exact H
  have Ny146 := Aside0.mk hy146
  clear hy146
  replace H := Option.bind_eq_some_iff.mp H
  obtain ⟨⟨t149, t150, t153⟩, A10, H⟩ := H
  replace H : (if t153 = 0 then (if t149 = 1 then (if (t150.length : Int) = 2 then (if 0 < (t150.length : Int) then (if (rd t150 0) = 0 then (if 1 < (t150.length : Int) then (some ((rd t150 1) == 1)) else (none)) else (some false)) else (none)) else (some false)) else (some false)) else (some false)) = some r := H
  have A1 := Aside0.mk A10
  clear A10
  by_cases c2 : t153 = 0
  · rw [if_pos c2] at H
    have c2b0 : (t153 == 0) = true := beq_iff_eq.mpr c2
    have c2b1 : (t153 != 0) = false := bne_eq_false_iff_eq.mpr c2
    clear c2
    by_cases c3 : t149 = 1
    · rw [if_pos c3] at H
      have c3b0 : (t149 == 1) = true := beq_iff_eq.mpr c3
      have c3b1 : (t149 != 1) = false := bne_eq_false_iff_eq.mpr c3
      clear c3
      by_cases c4 : (t150.length : Int) = 2
      · rw [if_pos c4] at H
        have c4b0 : ((t150.length : Int) == 2) = true := beq_iff_eq.mpr c4
        have c4b1 : ((t150.length : Int) != 2) = false := bne_eq_false_iff_eq.mpr c4
        clear c4
        by_cases c5 : 0 < (t150.length : Int)
        · rw [if_pos c5] at H
          have c5b0 : decide (0 < (t150.length : Int)) = true := decide_eq_true c5
          have c5b1 : decide (0 < t150.length) = true := decide_eq_true (by omega)
          clear c5
          by_cases c6 : (rd t150 0) = 0
          · rw [if_pos c6] at H
            have c6b0 : ((rd t150 0) == 0) = true := beq_iff_eq.mpr c6
            have c6b1 : ((rd t150 0) != 0) = false := bne_eq_false_iff_eq.mpr c6
            clear c6
            by_cases c7 : 1 < (t150.length : Int)
            · rw [if_pos c7] at H
              have c7b0 : decide (1 < (t150.length : Int)) = true := decide_eq_true c7
              have c7b1 : decide (1 < t150.length) = true := decide_eq_true (by omega)
              clear c7
              obtain rfl := Option.some.inj H
              go_enter Try.func15, Try.ntmps15
              go_wp2_with (first | ((with_reducible refine gate_dst (N := 7) rfl ?_); (try (refine gate_guard (by rfl) ?_; dsimp only)); refine Kd.R_lit k109 _ 109 ?hg (N := 7) ?hd (xs := ([(⟨0, 1⟩ : S109), (⟨1, 1⟩ : S109)] : List (S109))) (inner := [.int .i64 0, .int .i64 1, .int .i64 1, .int .i64 1]) (ok := fun _ => True) (okp := fun _ => True) ?hr ?hp (fun _ hk => hk) trivial (Below.refl _ _) (Nat.le_refl _) (by simp) ?_; (case hd => rfl); (case hg => rfl); (case hr => first | (go_simp; done) | (go_simp; rfl)); (case hp => exact (Reps.c2 (show Kd.M k109 _ _ _ (⟨0, 1⟩ : S109) [.int .i64 0, .int .i64 1] from (k109_mkM _ _ _ (⟨0, 1⟩ : S109) )) (Reps.c2 (show Kd.M k109 _ _ _ (⟨1, 1⟩ : S109) [.int .i64 1, .int .i64 1] from (k109_mkM _ _ _ (⟨1, 1⟩ : S109) )) (Reps.none _ _)))); intro v137 w8 ho9 hb hg_ hnew_; clear hg_ hnew_; (first | rw [← Ny136.out] at ho9 | (simp only [Int.reduceToNat] at ho9; rw [← Ny136.out] at ho9)); have n0_ := Aside0.mk (Kd.R_lower ho9 (below_size (by repeat (first | (with_reducible first | exact HB.out | apply below_alloc | apply pw_below_drewN | apply below_drew1) | exact HB.out)))); have n1_ := Aside0.mk (below_step (by repeat (first | (with_reducible first | exact HB.out | apply below_alloc | apply pw_below_drewN | apply below_drew1) | exact HB.out)) hb); clear HB; have HO138 := n0_; have HB := n1_; clear n0_ n1_; clear hb ho9) | ((with_reducible refine gate_dst (N := 10) rfl ?_); (try (refine gate_guard (by rfl) ?_; dsimp only)); refine Kd.R_lit k109 _ 109 ?hg (N := 10) ?hd (xs := ([(⟨0, 2⟩ : S109), (⟨1, 2⟩ : S109)] : List (S109))) (inner := [.int .i64 0, .int .i64 2, .int .i64 1, .int .i64 2]) (ok := fun _ => True) (okp := fun _ => True) ?hr ?hp (fun _ hk => hk) trivial (Below.refl _ _) (Nat.le_refl _) (by simp) ?_; (case hd => rfl); (case hg => rfl); (case hr => first | (go_simp; done) | (go_simp; rfl)); (case hp => exact (Reps.c2 (show Kd.M k109 _ _ _ (⟨0, 2⟩ : S109) [.int .i64 0, .int .i64 2] from (k109_mkM _ _ _ (⟨0, 2⟩ : S109) )) (Reps.c2 (show Kd.M k109 _ _ _ (⟨1, 2⟩ : S109) [.int .i64 1, .int .i64 2] from (k109_mkM _ _ _ (⟨1, 2⟩ : S109) )) (Reps.none _ _)))); intro v140 w10 ho11 hb hg_ hnew_; clear hg_ hnew_; (first | rw [← Ny139.out] at ho11 | (simp only [Int.reduceToNat] at ho11; rw [← Ny139.out] at ho11)); have n0_ := Aside0.mk (Kd.R_elder' (by (with_reducible repeat (first | apply Kd.R_alloc | apply Kd.R_drewN | apply Kd.R_drew)); exact HO138.out) (Kd.R_base ho11) hb); have n1_ := Aside0.mk (Kd.R_lower (Kd.R_new' ho11 (Kd.R_lt (by (with_reducible repeat (first | apply Kd.R_alloc | apply Kd.R_drewN | apply Kd.R_drew)); exact HO138.out))) (below_size (by repeat (first | (with_reducible first | exact HB.out | apply below_alloc | apply pw_below_drewN | apply below_drew1) | exact HB.out)))); have n2_ := Aside0.mk (below_step (by repeat (first | (with_reducible first | exact HB.out | apply below_alloc | apply pw_below_drewN | apply below_drew1) | exact HB.out)) hb); clear HO138; clear HB; have HO138 := n0_; have HO141 := n1_; have HB := n2_; clear n0_ n1_ n2_; clear hb ho11; obtain ⟨Ao12, co12, eo12⟩ := Kd.R_slice HO141.out; subst eo12) | ((with_reducible refine gate_dst (N := 12) rfl ?_); (try (refine gate_guard (by rfl) ?_; dsimp only)); refine Kd.N_lit k96 _ 96 ?hg (N' := 12) ?hd (xs := ([(⟨y139, 3⟩ : S96)] : List (S96))) (inner := [.slice Ao12 y139.length co12, .int .i64 3]) (ok := (fun k_ => some k_ ≠ (v137 : Value).ownBlock)) (okp := (fun k_ => some k_ ≠ (v137 : Value).ownBlock)) ?hr ?hp (fun _ hk => hk) ((show ∀ k_, w10.heap.size ≤ k_ → (fun k_ => some k_ ≠ (v137 : Value).ownBlock) k_ from fun k_ hk => Kd.fresh' (Kd.R_lt (by (with_reducible repeat (first | apply Kd.R_alloc | apply Kd.R_drewN | apply Kd.R_drew)); exact HO138.out)) k_ hk) _ (Nat.le_refl _)) (Below.refl _ _) (Nat.le_refl _) (by simp) ?_; (case hd => rfl); (case hg => rfl); (case hr => first | (go_simp; done) | (go_simp; rfl)); (case hp => exact (Reps.c2 (show Kd.FK k96 _ _ (⟨y139, 3⟩ : S96) [.slice Ao12 y139.length co12, .int .i64 3] from (k96_mkF _ _ (⟨y139, 3⟩ : S96) (Kd.R_reads' (Kd.R_mono (ok' := (fun k_ => some k_ ≠ (v137 : Value).ownBlock)) (HO141.out) (fun k_ hk => hk.2))).2.1 (Kd.R_F (Kd.R_mono (ok' := (fun k_ => some k_ ≠ (v137 : Value).ownBlock)) (HO141.out) (fun k_ hk => hk.2))))) (Reps.none _ _))); intro v143 w13 ho14 hb hg_ hnew_; clear hg_ hnew_; (first | rw [← Ny142.out] at ho14 | (simp only [Int.reduceToNat] at ho14; rw [← Ny142.out] at ho14)); have n0_ := Aside0.mk (Kd.R_below (by (with_reducible repeat (first | apply Kd.R_alloc | apply Kd.R_drewN | apply Kd.R_drew)); exact HO138.out) hb); have n1_ := Aside0.mk (Kd.N_lower ho14 (below_size (by repeat (first | (with_reducible first | exact HB.out | apply below_alloc | apply pw_below_drewN | apply below_drew1) | exact HB.out)))); have n2_ := Aside0.mk (below_step (by repeat (first | (with_reducible first | exact HB.out | apply below_alloc | apply pw_below_drewN | apply below_drew1) | exact HB.out)) hb); clear HO138; clear HB; clear HO141; have HO138 := n0_; have HO144 := n1_; have HB := n2_; clear n0_ n1_ n2_; clear hb ho14; obtain ⟨Ao15, co15, eo15⟩ := Kd.R_slice HO138.out; subst eo15; obtain ⟨Ao16, co16, eo16⟩ := Kd.N_slice HO144.out; subst eo16) | ((with_reducible refine gate_dst (N := 1) rfl ?_); (try (refine gate_guard (by rfl) ?_; dsimp only)); refine box_event ?hg (N := 1) ?hd (cs := #[.int .i64 0, .slice none 0 0, .slice none 0 0, .int .i64 0]) (t := 29) ?hr ?_; (case hd => rfl); (case hg => rfl); (case hr => first | (go_simp; done) | (go_simp; rfl)); intro gb145 hg w17 hbox hb; have n0_ := Aside0.mk (Kd.R_below (by (with_reducible repeat (first | apply Kd.R_alloc | apply Kd.R_drewN | apply Kd.R_drew)); exact HO138.out) hb); have n1_ := Aside0.mk (Kd.N_below (Kd.N_elderB (by (with_reducible repeat (first | apply Kd.N_alloc | apply Kd.N_drewN | apply Kd.N_drew)); exact HO144.out) gb145 (Nat.le_of_eq hg.symm)) hb); have n2_ := Aside0.mk (below_step (by repeat (first | (with_reducible first | exact HB.out | apply below_alloc | apply pw_below_drewN | apply below_drew1) | exact HB.out)) hb); have n3_ := Aside0.mk (hbox); have n4_ := Aside0.mk ((by rw [hg]; exact (below_size (by repeat (first | (with_reducible first | exact HB.out | apply below_alloc | apply pw_below_drewN | apply below_drew1) | exact HB.out))) : w.heap.size ≤ gb145)); have n5_ := Aside0.mk ((by rw [hg]; exact (below_size (by repeat (first | (with_reducible first | exact HB.out | apply below_alloc | apply pw_below_drewN | apply below_drew1) | exact HB.out))) : w.heap.size ≤ gb145)); clear HO138; clear HO144; clear HB; have HO138 := n0_; have HO144 := n1_; have HB := n2_; have BK145 := n3_; have GW145 := n4_; have GE145 := n5_; clear n0_ n1_ n2_ n3_ n4_ n5_; clear hb hbox hg; have hcz18_0 : w17.cell? ⟨gb145, 0, none⟩ = some (.int .i64 0) := (blk_cell BK145.out 0).trans rfl; have hcz18_1 : w17.cell? ⟨gb145, 1, none⟩ = some (.slice none 0 0) := (blk_cell BK145.out 1).trans rfl; have hcz18_2 : w17.cell? ⟨gb145, 2, none⟩ = some (.slice none 0 0) := (blk_cell BK145.out 2).trans rfl; have hcz18_3 : w17.cell? ⟨gb145, 3, none⟩ = some (.int .i64 0) := (blk_cell BK145.out 3).trans rfl; have hfz18_0 := blk_frozen BK145.out 0; have hfz18_1 := blk_frozen BK145.out 1; have hfz18_2 := blk_frozen BK145.out 2; have hfz18_3 := blk_frozen BK145.out 3) | ((with_reducible refine gate_dst (N := 16) rfl ?_); (try (refine gate_guard (by rfl) ?_; dsimp only)); refine Kd.R_lit (Kd.int .i64) _ 3 ?hg (N := 16) ?hd (xs := ([3, 3] : List Int)) (inner := [.int .i64 3, .int .i64 3]) (ok := fun _ => True) (okp := fun _ => True) ?hr ?hp (fun _ hk => hk) trivial (Below.refl _ _) (Nat.le_refl _) (by simp) ?_; (case hd => rfl); (case hg => rfl); (case hr => first | (go_simp; done) | (go_simp; rfl)); (case hp => exact (Reps.one (show Kd.M (Kd.int .i64) _ _ _ 3 [.int .i64 3] from rfl) (Reps.one (show Kd.M (Kd.int .i64) _ _ _ 3 [.int .i64 3] from rfl) (Reps.none _ _)))); intro v147 w19 ho20 hb hg_ hnew_; clear hg_ hnew_; (first | rw [← Ny146.out] at ho20 | (simp only [Int.reduceToNat] at ho20; rw [← Ny146.out] at ho20)); have n0_ := Aside0.mk (Kd.R_below (by (with_reducible repeat (first | apply Kd.R_alloc | apply Kd.R_drewN | apply Kd.R_drew)); exact (Kd.R_mono (Kd.R_far (p := ⟨gb145, 3, none⟩) (Kd.R_far (p := ⟨gb145, 2, none⟩) (Kd.R_far (p := ⟨gb145, 1, none⟩) (Kd.R_far (p := ⟨gb145, 0, none⟩) (Kd.R_types HO138.out BK145.out (by decide)) (fun _ hk => hk.2) (.int .i64 2)) (fun _ hk => hk.2) (.slice Ao16 y142.length co16)) (fun _ hk => hk.2) (.slice Ao15 y136.length co15)) (fun _ hk => hk.2) (.int .i64 0)) (fun _ h_ => h_.1))) hb); have n1_ := Aside0.mk (Kd.N_elder' (by (with_reducible repeat (first | apply Kd.N_alloc | apply Kd.N_drewN | apply Kd.N_drew)); exact (Kd.N_mono (Kd.N_far (p := ⟨gb145, 3, none⟩) (Kd.N_far (p := ⟨gb145, 2, none⟩) (Kd.N_far (p := ⟨gb145, 1, none⟩) (Kd.N_far (p := ⟨gb145, 0, none⟩) (Kd.N_mono HO144.out (fun k_ hk => (⟨hk, hk.2⟩ : _ ∧ k_ ≠ gb145))) (fun _ hk => hk.2) (.int .i64 2)) (fun _ hk => hk.2) (.slice Ao16 y142.length co16)) (fun _ hk => hk.2) (.slice Ao15 y136.length co15)) (fun _ hk => hk.2) (.int .i64 0)) (fun _ h_ => h_.1))) (Kd.R_base ho20) hb); have n2_ := Aside0.mk (Kd.R_lower ho20 (below_size (by repeat (first | (with_reducible first | exact HB.out | apply below_alloc | apply pw_below_drewN | apply below_drew1 | refine below_set ?_ GE145.out) | exact HB.out)))); have n3_ := Aside0.mk (blk_below (g := gb145) (o := .cells #[.int .i64 2, .slice Ao16 y142.length co16, .slice Ao15 y136.length co15, .int .i64 0] 29 (0, 0)) (by (with_reducible repeat (first | refine blk_drewN ?_ _ | refine blk_drew ?_ | refine blk_alloc ?_ _)); refine blk_put (cs := #[.int .i64 2, .slice Ao16 y142.length co16, .slice Ao15 y136.length co15, .int .i64 0]) ?_ 3 _ rfl; (with_reducible repeat (first | refine blk_drewN ?_ _ | refine blk_drew ?_ | refine blk_alloc ?_ _)); refine blk_put (cs := #[.int .i64 2, .slice Ao16 y142.length co16, .slice none 0 0, .int .i64 0]) ?_ 2 _ rfl; (with_reducible repeat (first | refine blk_drewN ?_ _ | refine blk_drew ?_ | refine blk_alloc ?_ _)); refine blk_put (cs := #[.int .i64 2, .slice none 0 0, .slice none 0 0, .int .i64 0]) ?_ 1 _ rfl; (with_reducible repeat (first | refine blk_drewN ?_ _ | refine blk_drew ?_ | refine blk_alloc ?_ _)); refine blk_put (cs := #[.int .i64 0, .slice none 0 0, .slice none 0 0, .int .i64 0]) ?_ 0 _ rfl; (with_reducible repeat (first | refine blk_drewN ?_ _ | refine blk_drew ?_ | refine blk_alloc ?_ _)); exact BK145.out) hb); have n4_ := Aside0.mk (below_step (by repeat (first | (with_reducible first | exact HB.out | apply below_alloc | apply pw_below_drewN | apply below_drew1 | refine below_set ?_ GE145.out) | exact HB.out)) hb); clear HO138; clear HO144; clear BK145; clear HB; have HO138 := n0_; have HO144 := n1_; have HO148 := n2_; have BK145 := n3_; have HB := n4_; clear n0_ n1_ n2_ n3_ n4_; clear hb ho20; obtain ⟨Ao21, co21, eo21⟩ := Kd.R_slice HO148.out; subst eo21) | ((with_reducible refine gate_callee (f := 22) rfl ?_); refine goesL_ (some 17) rfl rfl Try.func22 (by kernel_rfl) rfl #[.agg #[.int .i64 2, .slice Ao16 y142.length co16, .slice Ao15 y136.length co15, .int .i64 0], .slice Ao21 y146.length co21] rfl (by (try simp only [List.map_toArray, List.map_cons, List.map_nil]); first | done | rfl | (simp only [List.length_drop, List.length_take]; rfl)) ?_; (with_reducible refine (integer_Solve.calls k 2 _ _ y142 _ _ y136 0 _ _ y146 t149 t150 t153 _ ?side1 ?side2 ?side3 ?side4 ?side5 ?side6 A1.out).mono ?_); (case side1 => repeat (first | exact (Kd.N_reads' HO144.out).2.2 | (with_reducible refine Kd.C_alloc ?_ _) | (with_reducible refine Kd.C_drewN ?_ _) | (with_reducible refine Kd.C_drew ?_))); (case side2 => exact (Kd.N_reads' HO144.out).2.1); (case side3 => repeat (first | exact (Kd.R_reads' HO138.out).2.2 | (with_reducible refine Kd.C_alloc ?_ _) | (with_reducible refine Kd.C_drewN ?_ _) | (with_reducible refine Kd.C_drew ?_))); (case side4 => exact (Kd.R_reads' HO138.out).2.1); (case side5 => repeat (first | exact (Kd.R_reads' HO148.out).2.2 | (with_reducible refine Kd.C_alloc ?_ _) | (with_reducible refine Kd.C_drewN ?_ _) | (with_reducible refine Kd.C_drew ?_))); (case side6 => exact (Kd.R_reads' HO148.out).2.1); rintro e w22 ⟨v151, rfl, ho0, hb⟩; refine ⟨_, rfl, ?_⟩; have n0_ := Aside0.mk (Kd.R_below (by (with_reducible repeat (first | apply Kd.R_alloc | apply Kd.R_drewN | apply Kd.R_drew)); exact HO138.out) hb); have n1_ := Aside0.mk (Kd.N_elder' (by (with_reducible repeat (first | apply Kd.N_alloc | apply Kd.N_drewN | apply Kd.N_drew)); exact HO144.out) (Kd.R_base ho0) hb); have n2_ := Aside0.mk (Kd.R_elder' (by (with_reducible repeat (first | apply Kd.R_alloc | apply Kd.R_drewN | apply Kd.R_drew)); exact HO148.out) (Kd.R_base ho0) hb); have n3_ := Aside0.mk (Kd.R_lower (Kd.R_new' ho0 (Kd.R_lt (by (with_reducible repeat (first | apply Kd.R_alloc | apply Kd.R_drewN | apply Kd.R_drew)); exact HO148.out))) (below_size (by repeat (first | (with_reducible first | exact HB.out | apply below_alloc | apply pw_below_drewN | apply below_drew1 | refine below_set ?_ GE145.out) | exact HB.out)))); have n4_ := Aside0.mk (blk_below (g := gb145) (o := .cells #[.int .i64 2, .slice Ao16 y142.length co16, .slice Ao15 y136.length co15, .int .i64 0] 29 (0, 0)) (by (with_reducible repeat (first | refine blk_drewN ?_ _ | refine blk_drew ?_ | refine blk_alloc ?_ _)); exact BK145.out) hb); have n5_ := Aside0.mk (below_step (by repeat (first | (with_reducible first | exact HB.out | apply below_alloc | apply pw_below_drewN | apply below_drew1 | refine below_set ?_ GE145.out) | exact HB.out)) hb); clear HO138; clear HO144; clear HO148; clear BK145; clear HB; have HO138 := n0_; have HO144 := n1_; have HO148 := n2_; have HO152 := n3_; have BK145 := n4_; have HB := n5_; clear n0_ n1_ n2_ n3_ n4_ n5_; (try clear hb); (try clear hb2); (try clear hk); (try clear hi); (try clear ho0); obtain ⟨Ao23, co23, eo23⟩ := Kd.R_slice HO152.out; subst eo23; have p154 : 0 ≤ (0 : Int) := (by omega); have q154 : 0 < (t150.length : Int) := of_decide_eq_true (by first | (with_reducible assumption) | assumption); obtain ⟨ad154, e154, hx154_0⟩ := Kd.at_int (Kd.R_reads' HO152.out).2.2 0 p154 q154; cases e154; have qi154 : (0 < t150.length) = True := eq_true (by omega); (try rw [show ((0 : Int)).toNat = 0 from rfl] at hx154_0); (try rw [Addr.add_zero'] at hx154_0); replace p154 := eq_true p154; replace q154 := eq_true q154; have p155 : 0 ≤ (1 : Int) := (by omega); have q155 : 1 < (t150.length : Int) := of_decide_eq_true (by first | (with_reducible assumption) | assumption); obtain ⟨ad155, e155, hx155_0⟩ := Kd.at_int (Kd.R_reads' HO152.out).2.2 1 p155 q155; obtain rfl : ad154 = ad155 := (by injection e155); (try simp only [show (1 : Int).toNat = 1 from rfl, Nat.reduceMul, Nat.reduceEqDiff, Go.Addr.add, ↓reduceIte] at hx155_0); have qi155 : (1 < t150.length) = True := eq_true (by omega); (try rw [show ((1 : Int)).toNat = 1 from rfl] at hx155_0); replace p155 := eq_true p155; replace q155 := eq_true q155))
              go_ret
              exact ⟨by first | rfl | (simp [errW_none, errW_some] <;> rfl) | (simp [*, errW_none, errW_some] <;> rfl), by repeat (first | (with_reducible first | exact HB.out | apply below_alloc | apply pw_below_drewN | apply below_drew1 | refine below_set ?_ GE145.out) | exact HB.out)⟩
            · rw [if_neg c7] at H
              exact absurd H (by simp)
          · rw [if_neg c6] at H
            have c6b0 : ((rd t150 0) == 0) = false := beq_eq_false_iff_ne.mpr c6
            have c6b1 : ((rd t150 0) != 0) = true := bne_iff_ne.mpr c6
            obtain rfl := Option.some.inj H
            go_enter Try.func15, Try.ntmps15
            go_wp2_with (first | ((with_reducible refine gate_dst (N := 7) rfl ?_); (try (refine gate_guard (by rfl) ?_; dsimp only)); refine Kd.R_lit k109 _ 109 ?hg (N := 7) ?hd (xs := ([(⟨0, 1⟩ : S109), (⟨1, 1⟩ : S109)] : List (S109))) (inner := [.int .i64 0, .int .i64 1, .int .i64 1, .int .i64 1]) (ok := fun _ => True) (okp := fun _ => True) ?hr ?hp (fun _ hk => hk) trivial (Below.refl _ _) (Nat.le_refl _) (by simp) ?_; (case hd => rfl); (case hg => rfl); (case hr => first | (go_simp; done) | (go_simp; rfl)); (case hp => exact (Reps.c2 (show Kd.M k109 _ _ _ (⟨0, 1⟩ : S109) [.int .i64 0, .int .i64 1] from (k109_mkM _ _ _ (⟨0, 1⟩ : S109) )) (Reps.c2 (show Kd.M k109 _ _ _ (⟨1, 1⟩ : S109) [.int .i64 1, .int .i64 1] from (k109_mkM _ _ _ (⟨1, 1⟩ : S109) )) (Reps.none _ _)))); intro v137 w24 ho25 hb hg_ hnew_; clear hg_ hnew_; (first | rw [← Ny136.out] at ho25 | (simp only [Int.reduceToNat] at ho25; rw [← Ny136.out] at ho25)); have n0_ := Aside0.mk (Kd.R_lower ho25 (below_size (by repeat (first | (with_reducible first | exact HB.out | apply below_alloc | apply pw_below_drewN | apply below_drew1) | exact HB.out)))); have n1_ := Aside0.mk (below_step (by repeat (first | (with_reducible first | exact HB.out | apply below_alloc | apply pw_below_drewN | apply below_drew1) | exact HB.out)) hb); clear HB; have HO138 := n0_; have HB := n1_; clear n0_ n1_; clear hb ho25) | ((with_reducible refine gate_dst (N := 10) rfl ?_); (try (refine gate_guard (by rfl) ?_; dsimp only)); refine Kd.R_lit k109 _ 109 ?hg (N := 10) ?hd (xs := ([(⟨0, 2⟩ : S109), (⟨1, 2⟩ : S109)] : List (S109))) (inner := [.int .i64 0, .int .i64 2, .int .i64 1, .int .i64 2]) (ok := fun _ => True) (okp := fun _ => True) ?hr ?hp (fun _ hk => hk) trivial (Below.refl _ _) (Nat.le_refl _) (by simp) ?_; (case hd => rfl); (case hg => rfl); (case hr => first | (go_simp; done) | (go_simp; rfl)); (case hp => exact (Reps.c2 (show Kd.M k109 _ _ _ (⟨0, 2⟩ : S109) [.int .i64 0, .int .i64 2] from (k109_mkM _ _ _ (⟨0, 2⟩ : S109) )) (Reps.c2 (show Kd.M k109 _ _ _ (⟨1, 2⟩ : S109) [.int .i64 1, .int .i64 2] from (k109_mkM _ _ _ (⟨1, 2⟩ : S109) )) (Reps.none _ _)))); intro v140 w26 ho27 hb hg_ hnew_; clear hg_ hnew_; (first | rw [← Ny139.out] at ho27 | (simp only [Int.reduceToNat] at ho27; rw [← Ny139.out] at ho27)); have n0_ := Aside0.mk (Kd.R_elder' (by (with_reducible repeat (first | apply Kd.R_alloc | apply Kd.R_drewN | apply Kd.R_drew)); exact HO138.out) (Kd.R_base ho27) hb); have n1_ := Aside0.mk (Kd.R_lower (Kd.R_new' ho27 (Kd.R_lt (by (with_reducible repeat (first | apply Kd.R_alloc | apply Kd.R_drewN | apply Kd.R_drew)); exact HO138.out))) (below_size (by repeat (first | (with_reducible first | exact HB.out | apply below_alloc | apply pw_below_drewN | apply below_drew1) | exact HB.out)))); have n2_ := Aside0.mk (below_step (by repeat (first | (with_reducible first | exact HB.out | apply below_alloc | apply pw_below_drewN | apply below_drew1) | exact HB.out)) hb); clear HO138; clear HB; have HO138 := n0_; have HO141 := n1_; have HB := n2_; clear n0_ n1_ n2_; clear hb ho27; obtain ⟨Ao28, co28, eo28⟩ := Kd.R_slice HO141.out; subst eo28) | ((with_reducible refine gate_dst (N := 12) rfl ?_); (try (refine gate_guard (by rfl) ?_; dsimp only)); refine Kd.N_lit k96 _ 96 ?hg (N' := 12) ?hd (xs := ([(⟨y139, 3⟩ : S96)] : List (S96))) (inner := [.slice Ao28 y139.length co28, .int .i64 3]) (ok := (fun k_ => some k_ ≠ (v137 : Value).ownBlock)) (okp := (fun k_ => some k_ ≠ (v137 : Value).ownBlock)) ?hr ?hp (fun _ hk => hk) ((show ∀ k_, w26.heap.size ≤ k_ → (fun k_ => some k_ ≠ (v137 : Value).ownBlock) k_ from fun k_ hk => Kd.fresh' (Kd.R_lt (by (with_reducible repeat (first | apply Kd.R_alloc | apply Kd.R_drewN | apply Kd.R_drew)); exact HO138.out)) k_ hk) _ (Nat.le_refl _)) (Below.refl _ _) (Nat.le_refl _) (by simp) ?_; (case hd => rfl); (case hg => rfl); (case hr => first | (go_simp; done) | (go_simp; rfl)); (case hp => exact (Reps.c2 (show Kd.FK k96 _ _ (⟨y139, 3⟩ : S96) [.slice Ao28 y139.length co28, .int .i64 3] from (k96_mkF _ _ (⟨y139, 3⟩ : S96) (Kd.R_reads' (Kd.R_mono (ok' := (fun k_ => some k_ ≠ (v137 : Value).ownBlock)) (HO141.out) (fun k_ hk => hk.2))).2.1 (Kd.R_F (Kd.R_mono (ok' := (fun k_ => some k_ ≠ (v137 : Value).ownBlock)) (HO141.out) (fun k_ hk => hk.2))))) (Reps.none _ _))); intro v143 w29 ho30 hb hg_ hnew_; clear hg_ hnew_; (first | rw [← Ny142.out] at ho30 | (simp only [Int.reduceToNat] at ho30; rw [← Ny142.out] at ho30)); have n0_ := Aside0.mk (Kd.R_below (by (with_reducible repeat (first | apply Kd.R_alloc | apply Kd.R_drewN | apply Kd.R_drew)); exact HO138.out) hb); have n1_ := Aside0.mk (Kd.N_lower ho30 (below_size (by repeat (first | (with_reducible first | exact HB.out | apply below_alloc | apply pw_below_drewN | apply below_drew1) | exact HB.out)))); have n2_ := Aside0.mk (below_step (by repeat (first | (with_reducible first | exact HB.out | apply below_alloc | apply pw_below_drewN | apply below_drew1) | exact HB.out)) hb); clear HO138; clear HB; clear HO141; have HO138 := n0_; have HO144 := n1_; have HB := n2_; clear n0_ n1_ n2_; clear hb ho30; obtain ⟨Ao31, co31, eo31⟩ := Kd.R_slice HO138.out; subst eo31; obtain ⟨Ao32, co32, eo32⟩ := Kd.N_slice HO144.out; subst eo32) | ((with_reducible refine gate_dst (N := 1) rfl ?_); (try (refine gate_guard (by rfl) ?_; dsimp only)); refine box_event ?hg (N := 1) ?hd (cs := #[.int .i64 0, .slice none 0 0, .slice none 0 0, .int .i64 0]) (t := 29) ?hr ?_; (case hd => rfl); (case hg => rfl); (case hr => first | (go_simp; done) | (go_simp; rfl)); intro gb145 hg w33 hbox hb; have n0_ := Aside0.mk (Kd.R_below (by (with_reducible repeat (first | apply Kd.R_alloc | apply Kd.R_drewN | apply Kd.R_drew)); exact HO138.out) hb); have n1_ := Aside0.mk (Kd.N_below (Kd.N_elderB (by (with_reducible repeat (first | apply Kd.N_alloc | apply Kd.N_drewN | apply Kd.N_drew)); exact HO144.out) gb145 (Nat.le_of_eq hg.symm)) hb); have n2_ := Aside0.mk (below_step (by repeat (first | (with_reducible first | exact HB.out | apply below_alloc | apply pw_below_drewN | apply below_drew1) | exact HB.out)) hb); have n3_ := Aside0.mk (hbox); have n4_ := Aside0.mk ((by rw [hg]; exact (below_size (by repeat (first | (with_reducible first | exact HB.out | apply below_alloc | apply pw_below_drewN | apply below_drew1) | exact HB.out))) : w.heap.size ≤ gb145)); have n5_ := Aside0.mk ((by rw [hg]; exact (below_size (by repeat (first | (with_reducible first | exact HB.out | apply below_alloc | apply pw_below_drewN | apply below_drew1) | exact HB.out))) : w.heap.size ≤ gb145)); clear HO138; clear HO144; clear HB; have HO138 := n0_; have HO144 := n1_; have HB := n2_; have BK145 := n3_; have GW145 := n4_; have GE145 := n5_; clear n0_ n1_ n2_ n3_ n4_ n5_; clear hb hbox hg; have hcz34_0 : w33.cell? ⟨gb145, 0, none⟩ = some (.int .i64 0) := (blk_cell BK145.out 0).trans rfl; have hcz34_1 : w33.cell? ⟨gb145, 1, none⟩ = some (.slice none 0 0) := (blk_cell BK145.out 1).trans rfl; have hcz34_2 : w33.cell? ⟨gb145, 2, none⟩ = some (.slice none 0 0) := (blk_cell BK145.out 2).trans rfl; have hcz34_3 : w33.cell? ⟨gb145, 3, none⟩ = some (.int .i64 0) := (blk_cell BK145.out 3).trans rfl; have hfz34_0 := blk_frozen BK145.out 0; have hfz34_1 := blk_frozen BK145.out 1; have hfz34_2 := blk_frozen BK145.out 2; have hfz34_3 := blk_frozen BK145.out 3) | ((with_reducible refine gate_dst (N := 16) rfl ?_); (try (refine gate_guard (by rfl) ?_; dsimp only)); refine Kd.R_lit (Kd.int .i64) _ 3 ?hg (N := 16) ?hd (xs := ([3, 3] : List Int)) (inner := [.int .i64 3, .int .i64 3]) (ok := fun _ => True) (okp := fun _ => True) ?hr ?hp (fun _ hk => hk) trivial (Below.refl _ _) (Nat.le_refl _) (by simp) ?_; (case hd => rfl); (case hg => rfl); (case hr => first | (go_simp; done) | (go_simp; rfl)); (case hp => exact (Reps.one (show Kd.M (Kd.int .i64) _ _ _ 3 [.int .i64 3] from rfl) (Reps.one (show Kd.M (Kd.int .i64) _ _ _ 3 [.int .i64 3] from rfl) (Reps.none _ _)))); intro v147 w35 ho36 hb hg_ hnew_; clear hg_ hnew_; (first | rw [← Ny146.out] at ho36 | (simp only [Int.reduceToNat] at ho36; rw [← Ny146.out] at ho36)); have n0_ := Aside0.mk (Kd.R_below (by (with_reducible repeat (first | apply Kd.R_alloc | apply Kd.R_drewN | apply Kd.R_drew)); exact (Kd.R_mono (Kd.R_far (p := ⟨gb145, 3, none⟩) (Kd.R_far (p := ⟨gb145, 2, none⟩) (Kd.R_far (p := ⟨gb145, 1, none⟩) (Kd.R_far (p := ⟨gb145, 0, none⟩) (Kd.R_types HO138.out BK145.out (by decide)) (fun _ hk => hk.2) (.int .i64 2)) (fun _ hk => hk.2) (.slice Ao32 y142.length co32)) (fun _ hk => hk.2) (.slice Ao31 y136.length co31)) (fun _ hk => hk.2) (.int .i64 0)) (fun _ h_ => h_.1))) hb); have n1_ := Aside0.mk (Kd.N_elder' (by (with_reducible repeat (first | apply Kd.N_alloc | apply Kd.N_drewN | apply Kd.N_drew)); exact (Kd.N_mono (Kd.N_far (p := ⟨gb145, 3, none⟩) (Kd.N_far (p := ⟨gb145, 2, none⟩) (Kd.N_far (p := ⟨gb145, 1, none⟩) (Kd.N_far (p := ⟨gb145, 0, none⟩) (Kd.N_mono HO144.out (fun k_ hk => (⟨hk, hk.2⟩ : _ ∧ k_ ≠ gb145))) (fun _ hk => hk.2) (.int .i64 2)) (fun _ hk => hk.2) (.slice Ao32 y142.length co32)) (fun _ hk => hk.2) (.slice Ao31 y136.length co31)) (fun _ hk => hk.2) (.int .i64 0)) (fun _ h_ => h_.1))) (Kd.R_base ho36) hb); have n2_ := Aside0.mk (Kd.R_lower ho36 (below_size (by repeat (first | (with_reducible first | exact HB.out | apply below_alloc | apply pw_below_drewN | apply below_drew1 | refine below_set ?_ GE145.out) | exact HB.out)))); have n3_ := Aside0.mk (blk_below (g := gb145) (o := .cells #[.int .i64 2, .slice Ao32 y142.length co32, .slice Ao31 y136.length co31, .int .i64 0] 29 (0, 0)) (by (with_reducible repeat (first | refine blk_drewN ?_ _ | refine blk_drew ?_ | refine blk_alloc ?_ _)); refine blk_put (cs := #[.int .i64 2, .slice Ao32 y142.length co32, .slice Ao31 y136.length co31, .int .i64 0]) ?_ 3 _ rfl; (with_reducible repeat (first | refine blk_drewN ?_ _ | refine blk_drew ?_ | refine blk_alloc ?_ _)); refine blk_put (cs := #[.int .i64 2, .slice Ao32 y142.length co32, .slice none 0 0, .int .i64 0]) ?_ 2 _ rfl; (with_reducible repeat (first | refine blk_drewN ?_ _ | refine blk_drew ?_ | refine blk_alloc ?_ _)); refine blk_put (cs := #[.int .i64 2, .slice none 0 0, .slice none 0 0, .int .i64 0]) ?_ 1 _ rfl; (with_reducible repeat (first | refine blk_drewN ?_ _ | refine blk_drew ?_ | refine blk_alloc ?_ _)); refine blk_put (cs := #[.int .i64 0, .slice none 0 0, .slice none 0 0, .int .i64 0]) ?_ 0 _ rfl; (with_reducible repeat (first | refine blk_drewN ?_ _ | refine blk_drew ?_ | refine blk_alloc ?_ _)); exact BK145.out) hb); have n4_ := Aside0.mk (below_step (by repeat (first | (with_reducible first | exact HB.out | apply below_alloc | apply pw_below_drewN | apply below_drew1 | refine below_set ?_ GE145.out) | exact HB.out)) hb); clear HO138; clear HO144; clear BK145; clear HB; have HO138 := n0_; have HO144 := n1_; have HO148 := n2_; have BK145 := n3_; have HB := n4_; clear n0_ n1_ n2_ n3_ n4_; clear hb ho36; obtain ⟨Ao37, co37, eo37⟩ := Kd.R_slice HO148.out; subst eo37) | ((with_reducible refine gate_callee (f := 22) rfl ?_); refine goesL_ (some 17) rfl rfl Try.func22 (by kernel_rfl) rfl #[.agg #[.int .i64 2, .slice Ao32 y142.length co32, .slice Ao31 y136.length co31, .int .i64 0], .slice Ao37 y146.length co37] rfl (by (try simp only [List.map_toArray, List.map_cons, List.map_nil]); first | done | rfl | (simp only [List.length_drop, List.length_take]; rfl)) ?_; (with_reducible refine (integer_Solve.calls k 2 _ _ y142 _ _ y136 0 _ _ y146 t149 t150 t153 _ ?side1 ?side2 ?side3 ?side4 ?side5 ?side6 A1.out).mono ?_); (case side1 => repeat (first | exact (Kd.N_reads' HO144.out).2.2 | (with_reducible refine Kd.C_alloc ?_ _) | (with_reducible refine Kd.C_drewN ?_ _) | (with_reducible refine Kd.C_drew ?_))); (case side2 => exact (Kd.N_reads' HO144.out).2.1); (case side3 => repeat (first | exact (Kd.R_reads' HO138.out).2.2 | (with_reducible refine Kd.C_alloc ?_ _) | (with_reducible refine Kd.C_drewN ?_ _) | (with_reducible refine Kd.C_drew ?_))); (case side4 => exact (Kd.R_reads' HO138.out).2.1); (case side5 => repeat (first | exact (Kd.R_reads' HO148.out).2.2 | (with_reducible refine Kd.C_alloc ?_ _) | (with_reducible refine Kd.C_drewN ?_ _) | (with_reducible refine Kd.C_drew ?_))); (case side6 => exact (Kd.R_reads' HO148.out).2.1); rintro e w38 ⟨v151, rfl, ho0, hb⟩; refine ⟨_, rfl, ?_⟩; have n0_ := Aside0.mk (Kd.R_below (by (with_reducible repeat (first | apply Kd.R_alloc | apply Kd.R_drewN | apply Kd.R_drew)); exact HO138.out) hb); have n1_ := Aside0.mk (Kd.N_elder' (by (with_reducible repeat (first | apply Kd.N_alloc | apply Kd.N_drewN | apply Kd.N_drew)); exact HO144.out) (Kd.R_base ho0) hb); have n2_ := Aside0.mk (Kd.R_elder' (by (with_reducible repeat (first | apply Kd.R_alloc | apply Kd.R_drewN | apply Kd.R_drew)); exact HO148.out) (Kd.R_base ho0) hb); have n3_ := Aside0.mk (Kd.R_lower (Kd.R_new' ho0 (Kd.R_lt (by (with_reducible repeat (first | apply Kd.R_alloc | apply Kd.R_drewN | apply Kd.R_drew)); exact HO148.out))) (below_size (by repeat (first | (with_reducible first | exact HB.out | apply below_alloc | apply pw_below_drewN | apply below_drew1 | refine below_set ?_ GE145.out) | exact HB.out)))); have n4_ := Aside0.mk (blk_below (g := gb145) (o := .cells #[.int .i64 2, .slice Ao32 y142.length co32, .slice Ao31 y136.length co31, .int .i64 0] 29 (0, 0)) (by (with_reducible repeat (first | refine blk_drewN ?_ _ | refine blk_drew ?_ | refine blk_alloc ?_ _)); exact BK145.out) hb); have n5_ := Aside0.mk (below_step (by repeat (first | (with_reducible first | exact HB.out | apply below_alloc | apply pw_below_drewN | apply below_drew1 | refine below_set ?_ GE145.out) | exact HB.out)) hb); clear HO138; clear HO144; clear HO148; clear BK145; clear HB; have HO138 := n0_; have HO144 := n1_; have HO148 := n2_; have HO152 := n3_; have BK145 := n4_; have HB := n5_; clear n0_ n1_ n2_ n3_ n4_ n5_; (try clear hb); (try clear hb2); (try clear hk); (try clear hi); (try clear ho0); obtain ⟨Ao39, co39, eo39⟩ := Kd.R_slice HO152.out; subst eo39; have p154 : 0 ≤ (0 : Int) := (by omega); have q154 : 0 < (t150.length : Int) := of_decide_eq_true (by first | (with_reducible assumption) | assumption); obtain ⟨ad154, e154, hx154_0⟩ := Kd.at_int (Kd.R_reads' HO152.out).2.2 0 p154 q154; cases e154; have qi154 : (0 < t150.length) = True := eq_true (by omega); (try rw [show ((0 : Int)).toNat = 0 from rfl] at hx154_0); (try rw [Addr.add_zero'] at hx154_0); replace p154 := eq_true p154; replace q154 := eq_true q154))
            go_ret
            exact ⟨by first | rfl | (simp [errW_none, errW_some] <;> rfl) | (simp [*, errW_none, errW_some] <;> rfl), by repeat (first | (with_reducible first | exact HB.out | apply below_alloc | apply pw_below_drewN | apply below_drew1 | refine below_set ?_ GE145.out) | exact HB.out)⟩
        · rw [if_neg c5] at H
          exact absurd H (by simp)
      · rw [if_neg c4] at H
        have c4b0 : ((t150.length : Int) == 2) = false := beq_eq_false_iff_ne.mpr c4
        have c4b1 : ((t150.length : Int) != 2) = true := bne_iff_ne.mpr c4
        obtain rfl := Option.some.inj H
        go_enter Try.func15, Try.ntmps15
        go_wp2_with (first | ((with_reducible refine gate_dst (N := 7) rfl ?_); (try (refine gate_guard (by rfl) ?_; dsimp only)); refine Kd.R_lit k109 _ 109 ?hg (N := 7) ?hd (xs := ([(⟨0, 1⟩ : S109), (⟨1, 1⟩ : S109)] : List (S109))) (inner := [.int .i64 0, .int .i64 1, .int .i64 1, .int .i64 1]) (ok := fun _ => True) (okp := fun _ => True) ?hr ?hp (fun _ hk => hk) trivial (Below.refl _ _) (Nat.le_refl _) (by simp) ?_; (case hd => rfl); (case hg => rfl); (case hr => first | (go_simp; done) | (go_simp; rfl)); (case hp => exact (Reps.c2 (show Kd.M k109 _ _ _ (⟨0, 1⟩ : S109) [.int .i64 0, .int .i64 1] from (k109_mkM _ _ _ (⟨0, 1⟩ : S109) )) (Reps.c2 (show Kd.M k109 _ _ _ (⟨1, 1⟩ : S109) [.int .i64 1, .int .i64 1] from (k109_mkM _ _ _ (⟨1, 1⟩ : S109) )) (Reps.none _ _)))); intro v137 w40 ho41 hb hg_ hnew_; clear hg_ hnew_; (first | rw [← Ny136.out] at ho41 | (simp only [Int.reduceToNat] at ho41; rw [← Ny136.out] at ho41)); have n0_ := Aside0.mk (Kd.R_lower ho41 (below_size (by repeat (first | (with_reducible first | exact HB.out | apply below_alloc | apply pw_below_drewN | apply below_drew1) | exact HB.out)))); have n1_ := Aside0.mk (below_step (by repeat (first | (with_reducible first | exact HB.out | apply below_alloc | apply pw_below_drewN | apply below_drew1) | exact HB.out)) hb); clear HB; have HO138 := n0_; have HB := n1_; clear n0_ n1_; clear hb ho41) | ((with_reducible refine gate_dst (N := 10) rfl ?_); (try (refine gate_guard (by rfl) ?_; dsimp only)); refine Kd.R_lit k109 _ 109 ?hg (N := 10) ?hd (xs := ([(⟨0, 2⟩ : S109), (⟨1, 2⟩ : S109)] : List (S109))) (inner := [.int .i64 0, .int .i64 2, .int .i64 1, .int .i64 2]) (ok := fun _ => True) (okp := fun _ => True) ?hr ?hp (fun _ hk => hk) trivial (Below.refl _ _) (Nat.le_refl _) (by simp) ?_; (case hd => rfl); (case hg => rfl); (case hr => first | (go_simp; done) | (go_simp; rfl)); (case hp => exact (Reps.c2 (show Kd.M k109 _ _ _ (⟨0, 2⟩ : S109) [.int .i64 0, .int .i64 2] from (k109_mkM _ _ _ (⟨0, 2⟩ : S109) )) (Reps.c2 (show Kd.M k109 _ _ _ (⟨1, 2⟩ : S109) [.int .i64 1, .int .i64 2] from (k109_mkM _ _ _ (⟨1, 2⟩ : S109) )) (Reps.none _ _)))); intro v140 w42 ho43 hb hg_ hnew_; clear hg_ hnew_; (first | rw [← Ny139.out] at ho43 | (simp only [Int.reduceToNat] at ho43; rw [← Ny139.out] at ho43)); have n0_ := Aside0.mk (Kd.R_elder' (by (with_reducible repeat (first | apply Kd.R_alloc | apply Kd.R_drewN | apply Kd.R_drew)); exact HO138.out) (Kd.R_base ho43) hb); have n1_ := Aside0.mk (Kd.R_lower (Kd.R_new' ho43 (Kd.R_lt (by (with_reducible repeat (first | apply Kd.R_alloc | apply Kd.R_drewN | apply Kd.R_drew)); exact HO138.out))) (below_size (by repeat (first | (with_reducible first | exact HB.out | apply below_alloc | apply pw_below_drewN | apply below_drew1) | exact HB.out)))); have n2_ := Aside0.mk (below_step (by repeat (first | (with_reducible first | exact HB.out | apply below_alloc | apply pw_below_drewN | apply below_drew1) | exact HB.out)) hb); clear HO138; clear HB; have HO138 := n0_; have HO141 := n1_; have HB := n2_; clear n0_ n1_ n2_; clear hb ho43; obtain ⟨Ao44, co44, eo44⟩ := Kd.R_slice HO141.out; subst eo44) | ((with_reducible refine gate_dst (N := 12) rfl ?_); (try (refine gate_guard (by rfl) ?_; dsimp only)); refine Kd.N_lit k96 _ 96 ?hg (N' := 12) ?hd (xs := ([(⟨y139, 3⟩ : S96)] : List (S96))) (inner := [.slice Ao44 y139.length co44, .int .i64 3]) (ok := (fun k_ => some k_ ≠ (v137 : Value).ownBlock)) (okp := (fun k_ => some k_ ≠ (v137 : Value).ownBlock)) ?hr ?hp (fun _ hk => hk) ((show ∀ k_, w42.heap.size ≤ k_ → (fun k_ => some k_ ≠ (v137 : Value).ownBlock) k_ from fun k_ hk => Kd.fresh' (Kd.R_lt (by (with_reducible repeat (first | apply Kd.R_alloc | apply Kd.R_drewN | apply Kd.R_drew)); exact HO138.out)) k_ hk) _ (Nat.le_refl _)) (Below.refl _ _) (Nat.le_refl _) (by simp) ?_; (case hd => rfl); (case hg => rfl); (case hr => first | (go_simp; done) | (go_simp; rfl)); (case hp => exact (Reps.c2 (show Kd.FK k96 _ _ (⟨y139, 3⟩ : S96) [.slice Ao44 y139.length co44, .int .i64 3] from (k96_mkF _ _ (⟨y139, 3⟩ : S96) (Kd.R_reads' (Kd.R_mono (ok' := (fun k_ => some k_ ≠ (v137 : Value).ownBlock)) (HO141.out) (fun k_ hk => hk.2))).2.1 (Kd.R_F (Kd.R_mono (ok' := (fun k_ => some k_ ≠ (v137 : Value).ownBlock)) (HO141.out) (fun k_ hk => hk.2))))) (Reps.none _ _))); intro v143 w45 ho46 hb hg_ hnew_; clear hg_ hnew_; (first | rw [← Ny142.out] at ho46 | (simp only [Int.reduceToNat] at ho46; rw [← Ny142.out] at ho46)); have n0_ := Aside0.mk (Kd.R_below (by (with_reducible repeat (first | apply Kd.R_alloc | apply Kd.R_drewN | apply Kd.R_drew)); exact HO138.out) hb); have n1_ := Aside0.mk (Kd.N_lower ho46 (below_size (by repeat (first | (with_reducible first | exact HB.out | apply below_alloc | apply pw_below_drewN | apply below_drew1) | exact HB.out)))); have n2_ := Aside0.mk (below_step (by repeat (first | (with_reducible first | exact HB.out | apply below_alloc | apply pw_below_drewN | apply below_drew1) | exact HB.out)) hb); clear HO138; clear HB; clear HO141; have HO138 := n0_; have HO144 := n1_; have HB := n2_; clear n0_ n1_ n2_; clear hb ho46; obtain ⟨Ao47, co47, eo47⟩ := Kd.R_slice HO138.out; subst eo47; obtain ⟨Ao48, co48, eo48⟩ := Kd.N_slice HO144.out; subst eo48) | ((with_reducible refine gate_dst (N := 1) rfl ?_); (try (refine gate_guard (by rfl) ?_; dsimp only)); refine box_event ?hg (N := 1) ?hd (cs := #[.int .i64 0, .slice none 0 0, .slice none 0 0, .int .i64 0]) (t := 29) ?hr ?_; (case hd => rfl); (case hg => rfl); (case hr => first | (go_simp; done) | (go_simp; rfl)); intro gb145 hg w49 hbox hb; have n0_ := Aside0.mk (Kd.R_below (by (with_reducible repeat (first | apply Kd.R_alloc | apply Kd.R_drewN | apply Kd.R_drew)); exact HO138.out) hb); have n1_ := Aside0.mk (Kd.N_below (Kd.N_elderB (by (with_reducible repeat (first | apply Kd.N_alloc | apply Kd.N_drewN | apply Kd.N_drew)); exact HO144.out) gb145 (Nat.le_of_eq hg.symm)) hb); have n2_ := Aside0.mk (below_step (by repeat (first | (with_reducible first | exact HB.out | apply below_alloc | apply pw_below_drewN | apply below_drew1) | exact HB.out)) hb); have n3_ := Aside0.mk (hbox); have n4_ := Aside0.mk ((by rw [hg]; exact (below_size (by repeat (first | (with_reducible first | exact HB.out | apply below_alloc | apply pw_below_drewN | apply below_drew1) | exact HB.out))) : w.heap.size ≤ gb145)); have n5_ := Aside0.mk ((by rw [hg]; exact (below_size (by repeat (first | (with_reducible first | exact HB.out | apply below_alloc | apply pw_below_drewN | apply below_drew1) | exact HB.out))) : w.heap.size ≤ gb145)); clear HO138; clear HO144; clear HB; have HO138 := n0_; have HO144 := n1_; have HB := n2_; have BK145 := n3_; have GW145 := n4_; have GE145 := n5_; clear n0_ n1_ n2_ n3_ n4_ n5_; clear hb hbox hg; have hcz50_0 : w49.cell? ⟨gb145, 0, none⟩ = some (.int .i64 0) := (blk_cell BK145.out 0).trans rfl; have hcz50_1 : w49.cell? ⟨gb145, 1, none⟩ = some (.slice none 0 0) := (blk_cell BK145.out 1).trans rfl; have hcz50_2 : w49.cell? ⟨gb145, 2, none⟩ = some (.slice none 0 0) := (blk_cell BK145.out 2).trans rfl; have hcz50_3 : w49.cell? ⟨gb145, 3, none⟩ = some (.int .i64 0) := (blk_cell BK145.out 3).trans rfl; have hfz50_0 := blk_frozen BK145.out 0; have hfz50_1 := blk_frozen BK145.out 1; have hfz50_2 := blk_frozen BK145.out 2; have hfz50_3 := blk_frozen BK145.out 3) | ((with_reducible refine gate_dst (N := 16) rfl ?_); (try (refine gate_guard (by rfl) ?_; dsimp only)); refine Kd.R_lit (Kd.int .i64) _ 3 ?hg (N := 16) ?hd (xs := ([3, 3] : List Int)) (inner := [.int .i64 3, .int .i64 3]) (ok := fun _ => True) (okp := fun _ => True) ?hr ?hp (fun _ hk => hk) trivial (Below.refl _ _) (Nat.le_refl _) (by simp) ?_; (case hd => rfl); (case hg => rfl); (case hr => first | (go_simp; done) | (go_simp; rfl)); (case hp => exact (Reps.one (show Kd.M (Kd.int .i64) _ _ _ 3 [.int .i64 3] from rfl) (Reps.one (show Kd.M (Kd.int .i64) _ _ _ 3 [.int .i64 3] from rfl) (Reps.none _ _)))); intro v147 w51 ho52 hb hg_ hnew_; clear hg_ hnew_; (first | rw [← Ny146.out] at ho52 | (simp only [Int.reduceToNat] at ho52; rw [← Ny146.out] at ho52)); have n0_ := Aside0.mk (Kd.R_below (by (with_reducible repeat (first | apply Kd.R_alloc | apply Kd.R_drewN | apply Kd.R_drew)); exact (Kd.R_mono (Kd.R_far (p := ⟨gb145, 3, none⟩) (Kd.R_far (p := ⟨gb145, 2, none⟩) (Kd.R_far (p := ⟨gb145, 1, none⟩) (Kd.R_far (p := ⟨gb145, 0, none⟩) (Kd.R_types HO138.out BK145.out (by decide)) (fun _ hk => hk.2) (.int .i64 2)) (fun _ hk => hk.2) (.slice Ao48 y142.length co48)) (fun _ hk => hk.2) (.slice Ao47 y136.length co47)) (fun _ hk => hk.2) (.int .i64 0)) (fun _ h_ => h_.1))) hb); have n1_ := Aside0.mk (Kd.N_elder' (by (with_reducible repeat (first | apply Kd.N_alloc | apply Kd.N_drewN | apply Kd.N_drew)); exact (Kd.N_mono (Kd.N_far (p := ⟨gb145, 3, none⟩) (Kd.N_far (p := ⟨gb145, 2, none⟩) (Kd.N_far (p := ⟨gb145, 1, none⟩) (Kd.N_far (p := ⟨gb145, 0, none⟩) (Kd.N_mono HO144.out (fun k_ hk => (⟨hk, hk.2⟩ : _ ∧ k_ ≠ gb145))) (fun _ hk => hk.2) (.int .i64 2)) (fun _ hk => hk.2) (.slice Ao48 y142.length co48)) (fun _ hk => hk.2) (.slice Ao47 y136.length co47)) (fun _ hk => hk.2) (.int .i64 0)) (fun _ h_ => h_.1))) (Kd.R_base ho52) hb); have n2_ := Aside0.mk (Kd.R_lower ho52 (below_size (by repeat (first | (with_reducible first | exact HB.out | apply below_alloc | apply pw_below_drewN | apply below_drew1 | refine below_set ?_ GE145.out) | exact HB.out)))); have n3_ := Aside0.mk (blk_below (g := gb145) (o := .cells #[.int .i64 2, .slice Ao48 y142.length co48, .slice Ao47 y136.length co47, .int .i64 0] 29 (0, 0)) (by (with_reducible repeat (first | refine blk_drewN ?_ _ | refine blk_drew ?_ | refine blk_alloc ?_ _)); refine blk_put (cs := #[.int .i64 2, .slice Ao48 y142.length co48, .slice Ao47 y136.length co47, .int .i64 0]) ?_ 3 _ rfl; (with_reducible repeat (first | refine blk_drewN ?_ _ | refine blk_drew ?_ | refine blk_alloc ?_ _)); refine blk_put (cs := #[.int .i64 2, .slice Ao48 y142.length co48, .slice none 0 0, .int .i64 0]) ?_ 2 _ rfl; (with_reducible repeat (first | refine blk_drewN ?_ _ | refine blk_drew ?_ | refine blk_alloc ?_ _)); refine blk_put (cs := #[.int .i64 2, .slice none 0 0, .slice none 0 0, .int .i64 0]) ?_ 1 _ rfl; (with_reducible repeat (first | refine blk_drewN ?_ _ | refine blk_drew ?_ | refine blk_alloc ?_ _)); refine blk_put (cs := #[.int .i64 0, .slice none 0 0, .slice none 0 0, .int .i64 0]) ?_ 0 _ rfl; (with_reducible repeat (first | refine blk_drewN ?_ _ | refine blk_drew ?_ | refine blk_alloc ?_ _)); exact BK145.out) hb); have n4_ := Aside0.mk (below_step (by repeat (first | (with_reducible first | exact HB.out | apply below_alloc | apply pw_below_drewN | apply below_drew1 | refine below_set ?_ GE145.out) | exact HB.out)) hb); clear HO138; clear HO144; clear BK145; clear HB; have HO138 := n0_; have HO144 := n1_; have HO148 := n2_; have BK145 := n3_; have HB := n4_; clear n0_ n1_ n2_ n3_ n4_; clear hb ho52; obtain ⟨Ao53, co53, eo53⟩ := Kd.R_slice HO148.out; subst eo53) | ((with_reducible refine gate_callee (f := 22) rfl ?_); refine goesL_ (some 17) rfl rfl Try.func22 (by kernel_rfl) rfl #[.agg #[.int .i64 2, .slice Ao48 y142.length co48, .slice Ao47 y136.length co47, .int .i64 0], .slice Ao53 y146.length co53] rfl (by (try simp only [List.map_toArray, List.map_cons, List.map_nil]); first | done | rfl | (simp only [List.length_drop, List.length_take]; rfl)) ?_; (with_reducible refine (integer_Solve.calls k 2 _ _ y142 _ _ y136 0 _ _ y146 t149 t150 t153 _ ?side1 ?side2 ?side3 ?side4 ?side5 ?side6 A1.out).mono ?_); (case side1 => repeat (first | exact (Kd.N_reads' HO144.out).2.2 | (with_reducible refine Kd.C_alloc ?_ _) | (with_reducible refine Kd.C_drewN ?_ _) | (with_reducible refine Kd.C_drew ?_))); (case side2 => exact (Kd.N_reads' HO144.out).2.1); (case side3 => repeat (first | exact (Kd.R_reads' HO138.out).2.2 | (with_reducible refine Kd.C_alloc ?_ _) | (with_reducible refine Kd.C_drewN ?_ _) | (with_reducible refine Kd.C_drew ?_))); (case side4 => exact (Kd.R_reads' HO138.out).2.1); (case side5 => repeat (first | exact (Kd.R_reads' HO148.out).2.2 | (with_reducible refine Kd.C_alloc ?_ _) | (with_reducible refine Kd.C_drewN ?_ _) | (with_reducible refine Kd.C_drew ?_))); (case side6 => exact (Kd.R_reads' HO148.out).2.1); rintro e w54 ⟨v151, rfl, ho0, hb⟩; refine ⟨_, rfl, ?_⟩; have n0_ := Aside0.mk (Kd.R_below (by (with_reducible repeat (first | apply Kd.R_alloc | apply Kd.R_drewN | apply Kd.R_drew)); exact HO138.out) hb); have n1_ := Aside0.mk (Kd.N_elder' (by (with_reducible repeat (first | apply Kd.N_alloc | apply Kd.N_drewN | apply Kd.N_drew)); exact HO144.out) (Kd.R_base ho0) hb); have n2_ := Aside0.mk (Kd.R_elder' (by (with_reducible repeat (first | apply Kd.R_alloc | apply Kd.R_drewN | apply Kd.R_drew)); exact HO148.out) (Kd.R_base ho0) hb); have n3_ := Aside0.mk (Kd.R_lower (Kd.R_new' ho0 (Kd.R_lt (by (with_reducible repeat (first | apply Kd.R_alloc | apply Kd.R_drewN | apply Kd.R_drew)); exact HO148.out))) (below_size (by repeat (first | (with_reducible first | exact HB.out | apply below_alloc | apply pw_below_drewN | apply below_drew1 | refine below_set ?_ GE145.out) | exact HB.out)))); have n4_ := Aside0.mk (blk_below (g := gb145) (o := .cells #[.int .i64 2, .slice Ao48 y142.length co48, .slice Ao47 y136.length co47, .int .i64 0] 29 (0, 0)) (by (with_reducible repeat (first | refine blk_drewN ?_ _ | refine blk_drew ?_ | refine blk_alloc ?_ _)); exact BK145.out) hb); have n5_ := Aside0.mk (below_step (by repeat (first | (with_reducible first | exact HB.out | apply below_alloc | apply pw_below_drewN | apply below_drew1 | refine below_set ?_ GE145.out) | exact HB.out)) hb); clear HO138; clear HO144; clear HO148; clear BK145; clear HB; have HO138 := n0_; have HO144 := n1_; have HO148 := n2_; have HO152 := n3_; have BK145 := n4_; have HB := n5_; clear n0_ n1_ n2_ n3_ n4_ n5_; (try clear hb); (try clear hb2); (try clear hk); (try clear hi); (try clear ho0); obtain ⟨Ao55, co55, eo55⟩ := Kd.R_slice HO152.out; subst eo55))
        go_ret
        exact ⟨by first | rfl | (simp [errW_none, errW_some] <;> rfl) | (simp [*, errW_none, errW_some] <;> rfl), by repeat (first | (with_reducible first | exact HB.out | apply below_alloc | apply pw_below_drewN | apply below_drew1 | refine below_set ?_ GE145.out) | exact HB.out)⟩
    · rw [if_neg c3] at H
      have c3b0 : (t149 == 1) = false := beq_eq_false_iff_ne.mpr c3
      have c3b1 : (t149 != 1) = true := bne_iff_ne.mpr c3
      obtain rfl := Option.some.inj H
      go_enter Try.func15, Try.ntmps15
      go_wp2_with (first | ((with_reducible refine gate_dst (N := 7) rfl ?_); (try (refine gate_guard (by rfl) ?_; dsimp only)); refine Kd.R_lit k109 _ 109 ?hg (N := 7) ?hd (xs := ([(⟨0, 1⟩ : S109), (⟨1, 1⟩ : S109)] : List (S109))) (inner := [.int .i64 0, .int .i64 1, .int .i64 1, .int .i64 1]) (ok := fun _ => True) (okp := fun _ => True) ?hr ?hp (fun _ hk => hk) trivial (Below.refl _ _) (Nat.le_refl _) (by simp) ?_; (case hd => rfl); (case hg => rfl); (case hr => first | (go_simp; done) | (go_simp; rfl)); (case hp => exact (Reps.c2 (show Kd.M k109 _ _ _ (⟨0, 1⟩ : S109) [.int .i64 0, .int .i64 1] from (k109_mkM _ _ _ (⟨0, 1⟩ : S109) )) (Reps.c2 (show Kd.M k109 _ _ _ (⟨1, 1⟩ : S109) [.int .i64 1, .int .i64 1] from (k109_mkM _ _ _ (⟨1, 1⟩ : S109) )) (Reps.none _ _)))); intro v137 w56 ho57 hb hg_ hnew_; clear hg_ hnew_; (first | rw [← Ny136.out] at ho57 | (simp only [Int.reduceToNat] at ho57; rw [← Ny136.out] at ho57)); have n0_ := Aside0.mk (Kd.R_lower ho57 (below_size (by repeat (first | (with_reducible first | exact HB.out | apply below_alloc | apply pw_below_drewN | apply below_drew1) | exact HB.out)))); have n1_ := Aside0.mk (below_step (by repeat (first | (with_reducible first | exact HB.out | apply below_alloc | apply pw_below_drewN | apply below_drew1) | exact HB.out)) hb); clear HB; have HO138 := n0_; have HB := n1_; clear n0_ n1_; clear hb ho57) | ((with_reducible refine gate_dst (N := 10) rfl ?_); (try (refine gate_guard (by rfl) ?_; dsimp only)); refine Kd.R_lit k109 _ 109 ?hg (N := 10) ?hd (xs := ([(⟨0, 2⟩ : S109), (⟨1, 2⟩ : S109)] : List (S109))) (inner := [.int .i64 0, .int .i64 2, .int .i64 1, .int .i64 2]) (ok := fun _ => True) (okp := fun _ => True) ?hr ?hp (fun _ hk => hk) trivial (Below.refl _ _) (Nat.le_refl _) (by simp) ?_; (case hd => rfl); (case hg => rfl); (case hr => first | (go_simp; done) | (go_simp; rfl)); (case hp => exact (Reps.c2 (show Kd.M k109 _ _ _ (⟨0, 2⟩ : S109) [.int .i64 0, .int .i64 2] from (k109_mkM _ _ _ (⟨0, 2⟩ : S109) )) (Reps.c2 (show Kd.M k109 _ _ _ (⟨1, 2⟩ : S109) [.int .i64 1, .int .i64 2] from (k109_mkM _ _ _ (⟨1, 2⟩ : S109) )) (Reps.none _ _)))); intro v140 w58 ho59 hb hg_ hnew_; clear hg_ hnew_; (first | rw [← Ny139.out] at ho59 | (simp only [Int.reduceToNat] at ho59; rw [← Ny139.out] at ho59)); have n0_ := Aside0.mk (Kd.R_elder' (by (with_reducible repeat (first | apply Kd.R_alloc | apply Kd.R_drewN | apply Kd.R_drew)); exact HO138.out) (Kd.R_base ho59) hb); have n1_ := Aside0.mk (Kd.R_lower (Kd.R_new' ho59 (Kd.R_lt (by (with_reducible repeat (first | apply Kd.R_alloc | apply Kd.R_drewN | apply Kd.R_drew)); exact HO138.out))) (below_size (by repeat (first | (with_reducible first | exact HB.out | apply below_alloc | apply pw_below_drewN | apply below_drew1) | exact HB.out)))); have n2_ := Aside0.mk (below_step (by repeat (first | (with_reducible first | exact HB.out | apply below_alloc | apply pw_below_drewN | apply below_drew1) | exact HB.out)) hb); clear HO138; clear HB; have HO138 := n0_; have HO141 := n1_; have HB := n2_; clear n0_ n1_ n2_; clear hb ho59; obtain ⟨Ao60, co60, eo60⟩ := Kd.R_slice HO141.out; subst eo60) | ((with_reducible refine gate_dst (N := 12) rfl ?_); (try (refine gate_guard (by rfl) ?_; dsimp only)); refine Kd.N_lit k96 _ 96 ?hg (N' := 12) ?hd (xs := ([(⟨y139, 3⟩ : S96)] : List (S96))) (inner := [.slice Ao60 y139.length co60, .int .i64 3]) (ok := (fun k_ => some k_ ≠ (v137 : Value).ownBlock)) (okp := (fun k_ => some k_ ≠ (v137 : Value).ownBlock)) ?hr ?hp (fun _ hk => hk) ((show ∀ k_, w58.heap.size ≤ k_ → (fun k_ => some k_ ≠ (v137 : Value).ownBlock) k_ from fun k_ hk => Kd.fresh' (Kd.R_lt (by (with_reducible repeat (first | apply Kd.R_alloc | apply Kd.R_drewN | apply Kd.R_drew)); exact HO138.out)) k_ hk) _ (Nat.le_refl _)) (Below.refl _ _) (Nat.le_refl _) (by simp) ?_; (case hd => rfl); (case hg => rfl); (case hr => first | (go_simp; done) | (go_simp; rfl)); (case hp => exact (Reps.c2 (show Kd.FK k96 _ _ (⟨y139, 3⟩ : S96) [.slice Ao60 y139.length co60, .int .i64 3] from (k96_mkF _ _ (⟨y139, 3⟩ : S96) (Kd.R_reads' (Kd.R_mono (ok' := (fun k_ => some k_ ≠ (v137 : Value).ownBlock)) (HO141.out) (fun k_ hk => hk.2))).2.1 (Kd.R_F (Kd.R_mono (ok' := (fun k_ => some k_ ≠ (v137 : Value).ownBlock)) (HO141.out) (fun k_ hk => hk.2))))) (Reps.none _ _))); intro v143 w61 ho62 hb hg_ hnew_; clear hg_ hnew_; (first | rw [← Ny142.out] at ho62 | (simp only [Int.reduceToNat] at ho62; rw [← Ny142.out] at ho62)); have n0_ := Aside0.mk (Kd.R_below (by (with_reducible repeat (first | apply Kd.R_alloc | apply Kd.R_drewN | apply Kd.R_drew)); exact HO138.out) hb); have n1_ := Aside0.mk (Kd.N_lower ho62 (below_size (by repeat (first | (with_reducible first | exact HB.out | apply below_alloc | apply pw_below_drewN | apply below_drew1) | exact HB.out)))); have n2_ := Aside0.mk (below_step (by repeat (first | (with_reducible first | exact HB.out | apply below_alloc | apply pw_below_drewN | apply below_drew1) | exact HB.out)) hb); clear HO138; clear HB; clear HO141; have HO138 := n0_; have HO144 := n1_; have HB := n2_; clear n0_ n1_ n2_; clear hb ho62; obtain ⟨Ao63, co63, eo63⟩ := Kd.R_slice HO138.out; subst eo63; obtain ⟨Ao64, co64, eo64⟩ := Kd.N_slice HO144.out; subst eo64) | ((with_reducible refine gate_dst (N := 1) rfl ?_); (try (refine gate_guard (by rfl) ?_; dsimp only)); refine box_event ?hg (N := 1) ?hd (cs := #[.int .i64 0, .slice none 0 0, .slice none 0 0, .int .i64 0]) (t := 29) ?hr ?_; (case hd => rfl); (case hg => rfl); (case hr => first | (go_simp; done) | (go_simp; rfl)); intro gb145 hg w65 hbox hb; have n0_ := Aside0.mk (Kd.R_below (by (with_reducible repeat (first | apply Kd.R_alloc | apply Kd.R_drewN | apply Kd.R_drew)); exact HO138.out) hb); have n1_ := Aside0.mk (Kd.N_below (Kd.N_elderB (by (with_reducible repeat (first | apply Kd.N_alloc | apply Kd.N_drewN | apply Kd.N_drew)); exact HO144.out) gb145 (Nat.le_of_eq hg.symm)) hb); have n2_ := Aside0.mk (below_step (by repeat (first | (with_reducible first | exact HB.out | apply below_alloc | apply pw_below_drewN | apply below_drew1) | exact HB.out)) hb); have n3_ := Aside0.mk (hbox); have n4_ := Aside0.mk ((by rw [hg]; exact (below_size (by repeat (first | (with_reducible first | exact HB.out | apply below_alloc | apply pw_below_drewN | apply below_drew1) | exact HB.out))) : w.heap.size ≤ gb145)); have n5_ := Aside0.mk ((by rw [hg]; exact (below_size (by repeat (first | (with_reducible first | exact HB.out | apply below_alloc | apply pw_below_drewN | apply below_drew1) | exact HB.out))) : w.heap.size ≤ gb145)); clear HO138; clear HO144; clear HB; have HO138 := n0_; have HO144 := n1_; have HB := n2_; have BK145 := n3_; have GW145 := n4_; have GE145 := n5_; clear n0_ n1_ n2_ n3_ n4_ n5_; clear hb hbox hg; have hcz66_0 : w65.cell? ⟨gb145, 0, none⟩ = some (.int .i64 0) := (blk_cell BK145.out 0).trans rfl; have hcz66_1 : w65.cell? ⟨gb145, 1, none⟩ = some (.slice none 0 0) := (blk_cell BK145.out 1).trans rfl; have hcz66_2 : w65.cell? ⟨gb145, 2, none⟩ = some (.slice none 0 0) := (blk_cell BK145.out 2).trans rfl; have hcz66_3 : w65.cell? ⟨gb145, 3, none⟩ = some (.int .i64 0) := (blk_cell BK145.out 3).trans rfl; have hfz66_0 := blk_frozen BK145.out 0; have hfz66_1 := blk_frozen BK145.out 1; have hfz66_2 := blk_frozen BK145.out 2; have hfz66_3 := blk_frozen BK145.out 3) | ((with_reducible refine gate_dst (N := 16) rfl ?_); (try (refine gate_guard (by rfl) ?_; dsimp only)); refine Kd.R_lit (Kd.int .i64) _ 3 ?hg (N := 16) ?hd (xs := ([3, 3] : List Int)) (inner := [.int .i64 3, .int .i64 3]) (ok := fun _ => True) (okp := fun _ => True) ?hr ?hp (fun _ hk => hk) trivial (Below.refl _ _) (Nat.le_refl _) (by simp) ?_; (case hd => rfl); (case hg => rfl); (case hr => first | (go_simp; done) | (go_simp; rfl)); (case hp => exact (Reps.one (show Kd.M (Kd.int .i64) _ _ _ 3 [.int .i64 3] from rfl) (Reps.one (show Kd.M (Kd.int .i64) _ _ _ 3 [.int .i64 3] from rfl) (Reps.none _ _)))); intro v147 w67 ho68 hb hg_ hnew_; clear hg_ hnew_; (first | rw [← Ny146.out] at ho68 | (simp only [Int.reduceToNat] at ho68; rw [← Ny146.out] at ho68)); have n0_ := Aside0.mk (Kd.R_below (by (with_reducible repeat (first | apply Kd.R_alloc | apply Kd.R_drewN | apply Kd.R_drew)); exact (Kd.R_mono (Kd.R_far (p := ⟨gb145, 3, none⟩) (Kd.R_far (p := ⟨gb145, 2, none⟩) (Kd.R_far (p := ⟨gb145, 1, none⟩) (Kd.R_far (p := ⟨gb145, 0, none⟩) (Kd.R_types HO138.out BK145.out (by decide)) (fun _ hk => hk.2) (.int .i64 2)) (fun _ hk => hk.2) (.slice Ao64 y142.length co64)) (fun _ hk => hk.2) (.slice Ao63 y136.length co63)) (fun _ hk => hk.2) (.int .i64 0)) (fun _ h_ => h_.1))) hb); have n1_ := Aside0.mk (Kd.N_elder' (by (with_reducible repeat (first | apply Kd.N_alloc | apply Kd.N_drewN | apply Kd.N_drew)); exact (Kd.N_mono (Kd.N_far (p := ⟨gb145, 3, none⟩) (Kd.N_far (p := ⟨gb145, 2, none⟩) (Kd.N_far (p := ⟨gb145, 1, none⟩) (Kd.N_far (p := ⟨gb145, 0, none⟩) (Kd.N_mono HO144.out (fun k_ hk => (⟨hk, hk.2⟩ : _ ∧ k_ ≠ gb145))) (fun _ hk => hk.2) (.int .i64 2)) (fun _ hk => hk.2) (.slice Ao64 y142.length co64)) (fun _ hk => hk.2) (.slice Ao63 y136.length co63)) (fun _ hk => hk.2) (.int .i64 0)) (fun _ h_ => h_.1))) (Kd.R_base ho68) hb); have n2_ := Aside0.mk (Kd.R_lower ho68 (below_size (by repeat (first | (with_reducible first | exact HB.out | apply below_alloc | apply pw_below_drewN | apply below_drew1 | refine below_set ?_ GE145.out) | exact HB.out)))); have n3_ := Aside0.mk (blk_below (g := gb145) (o := .cells #[.int .i64 2, .slice Ao64 y142.length co64, .slice Ao63 y136.length co63, .int .i64 0] 29 (0, 0)) (by (with_reducible repeat (first | refine blk_drewN ?_ _ | refine blk_drew ?_ | refine blk_alloc ?_ _)); refine blk_put (cs := #[.int .i64 2, .slice Ao64 y142.length co64, .slice Ao63 y136.length co63, .int .i64 0]) ?_ 3 _ rfl; (with_reducible repeat (first | refine blk_drewN ?_ _ | refine blk_drew ?_ | refine blk_alloc ?_ _)); refine blk_put (cs := #[.int .i64 2, .slice Ao64 y142.length co64, .slice none 0 0, .int .i64 0]) ?_ 2 _ rfl; (with_reducible repeat (first | refine blk_drewN ?_ _ | refine blk_drew ?_ | refine blk_alloc ?_ _)); refine blk_put (cs := #[.int .i64 2, .slice none 0 0, .slice none 0 0, .int .i64 0]) ?_ 1 _ rfl; (with_reducible repeat (first | refine blk_drewN ?_ _ | refine blk_drew ?_ | refine blk_alloc ?_ _)); refine blk_put (cs := #[.int .i64 0, .slice none 0 0, .slice none 0 0, .int .i64 0]) ?_ 0 _ rfl; (with_reducible repeat (first | refine blk_drewN ?_ _ | refine blk_drew ?_ | refine blk_alloc ?_ _)); exact BK145.out) hb); have n4_ := Aside0.mk (below_step (by repeat (first | (with_reducible first | exact HB.out | apply below_alloc | apply pw_below_drewN | apply below_drew1 | refine below_set ?_ GE145.out) | exact HB.out)) hb); clear HO138; clear HO144; clear BK145; clear HB; have HO138 := n0_; have HO144 := n1_; have HO148 := n2_; have BK145 := n3_; have HB := n4_; clear n0_ n1_ n2_ n3_ n4_; clear hb ho68; obtain ⟨Ao69, co69, eo69⟩ := Kd.R_slice HO148.out; subst eo69) | ((with_reducible refine gate_callee (f := 22) rfl ?_); refine goesL_ (some 17) rfl rfl Try.func22 (by kernel_rfl) rfl #[.agg #[.int .i64 2, .slice Ao64 y142.length co64, .slice Ao63 y136.length co63, .int .i64 0], .slice Ao69 y146.length co69] rfl (by (try simp only [List.map_toArray, List.map_cons, List.map_nil]); first | done | rfl | (simp only [List.length_drop, List.length_take]; rfl)) ?_; (with_reducible refine (integer_Solve.calls k 2 _ _ y142 _ _ y136 0 _ _ y146 t149 t150 t153 _ ?side1 ?side2 ?side3 ?side4 ?side5 ?side6 A1.out).mono ?_); (case side1 => repeat (first | exact (Kd.N_reads' HO144.out).2.2 | (with_reducible refine Kd.C_alloc ?_ _) | (with_reducible refine Kd.C_drewN ?_ _) | (with_reducible refine Kd.C_drew ?_))); (case side2 => exact (Kd.N_reads' HO144.out).2.1); (case side3 => repeat (first | exact (Kd.R_reads' HO138.out).2.2 | (with_reducible refine Kd.C_alloc ?_ _) | (with_reducible refine Kd.C_drewN ?_ _) | (with_reducible refine Kd.C_drew ?_))); (case side4 => exact (Kd.R_reads' HO138.out).2.1); (case side5 => repeat (first | exact (Kd.R_reads' HO148.out).2.2 | (with_reducible refine Kd.C_alloc ?_ _) | (with_reducible refine Kd.C_drewN ?_ _) | (with_reducible refine Kd.C_drew ?_))); (case side6 => exact (Kd.R_reads' HO148.out).2.1); rintro e w70 ⟨v151, rfl, ho0, hb⟩; refine ⟨_, rfl, ?_⟩; have n0_ := Aside0.mk (Kd.R_below (by (with_reducible repeat (first | apply Kd.R_alloc | apply Kd.R_drewN | apply Kd.R_drew)); exact HO138.out) hb); have n1_ := Aside0.mk (Kd.N_elder' (by (with_reducible repeat (first | apply Kd.N_alloc | apply Kd.N_drewN | apply Kd.N_drew)); exact HO144.out) (Kd.R_base ho0) hb); have n2_ := Aside0.mk (Kd.R_elder' (by (with_reducible repeat (first | apply Kd.R_alloc | apply Kd.R_drewN | apply Kd.R_drew)); exact HO148.out) (Kd.R_base ho0) hb); have n3_ := Aside0.mk (Kd.R_lower (Kd.R_new' ho0 (Kd.R_lt (by (with_reducible repeat (first | apply Kd.R_alloc | apply Kd.R_drewN | apply Kd.R_drew)); exact HO148.out))) (below_size (by repeat (first | (with_reducible first | exact HB.out | apply below_alloc | apply pw_below_drewN | apply below_drew1 | refine below_set ?_ GE145.out) | exact HB.out)))); have n4_ := Aside0.mk (blk_below (g := gb145) (o := .cells #[.int .i64 2, .slice Ao64 y142.length co64, .slice Ao63 y136.length co63, .int .i64 0] 29 (0, 0)) (by (with_reducible repeat (first | refine blk_drewN ?_ _ | refine blk_drew ?_ | refine blk_alloc ?_ _)); exact BK145.out) hb); have n5_ := Aside0.mk (below_step (by repeat (first | (with_reducible first | exact HB.out | apply below_alloc | apply pw_below_drewN | apply below_drew1 | refine below_set ?_ GE145.out) | exact HB.out)) hb); clear HO138; clear HO144; clear HO148; clear BK145; clear HB; have HO138 := n0_; have HO144 := n1_; have HO148 := n2_; have HO152 := n3_; have BK145 := n4_; have HB := n5_; clear n0_ n1_ n2_ n3_ n4_ n5_; (try clear hb); (try clear hb2); (try clear hk); (try clear hi); (try clear ho0)))
      go_ret
      exact ⟨by first | rfl | (simp [errW_none, errW_some] <;> rfl) | (simp [*, errW_none, errW_some] <;> rfl), by repeat (first | (with_reducible first | exact HB.out | apply below_alloc | apply pw_below_drewN | apply below_drew1 | refine below_set ?_ GE145.out) | exact HB.out)⟩
  · rw [if_neg c2] at H
    have c2b0 : (t153 == 0) = false := beq_eq_false_iff_ne.mpr c2
    have c2b1 : (t153 != 0) = true := bne_iff_ne.mpr c2
    obtain rfl := Option.some.inj H
    go_enter Try.func15, Try.ntmps15
    go_wp2_with (first | ((with_reducible refine gate_dst (N := 7) rfl ?_); (try (refine gate_guard (by rfl) ?_; dsimp only)); refine Kd.R_lit k109 _ 109 ?hg (N := 7) ?hd (xs := ([(⟨0, 1⟩ : S109), (⟨1, 1⟩ : S109)] : List (S109))) (inner := [.int .i64 0, .int .i64 1, .int .i64 1, .int .i64 1]) (ok := fun _ => True) (okp := fun _ => True) ?hr ?hp (fun _ hk => hk) trivial (Below.refl _ _) (Nat.le_refl _) (by simp) ?_; (case hd => rfl); (case hg => rfl); (case hr => first | (go_simp; done) | (go_simp; rfl)); (case hp => exact (Reps.c2 (show Kd.M k109 _ _ _ (⟨0, 1⟩ : S109) [.int .i64 0, .int .i64 1] from (k109_mkM _ _ _ (⟨0, 1⟩ : S109) )) (Reps.c2 (show Kd.M k109 _ _ _ (⟨1, 1⟩ : S109) [.int .i64 1, .int .i64 1] from (k109_mkM _ _ _ (⟨1, 1⟩ : S109) )) (Reps.none _ _)))); intro v137 w71 ho72 hb hg_ hnew_; clear hg_ hnew_; (first | rw [← Ny136.out] at ho72 | (simp only [Int.reduceToNat] at ho72; rw [← Ny136.out] at ho72)); have n0_ := Aside0.mk (Kd.R_lower ho72 (below_size (by repeat (first | (with_reducible first | exact HB.out | apply below_alloc | apply pw_below_drewN | apply below_drew1) | exact HB.out)))); have n1_ := Aside0.mk (below_step (by repeat (first | (with_reducible first | exact HB.out | apply below_alloc | apply pw_below_drewN | apply below_drew1) | exact HB.out)) hb); clear HB; have HO138 := n0_; have HB := n1_; clear n0_ n1_; clear hb ho72) | ((with_reducible refine gate_dst (N := 10) rfl ?_); (try (refine gate_guard (by rfl) ?_; dsimp only)); refine Kd.R_lit k109 _ 109 ?hg (N := 10) ?hd (xs := ([(⟨0, 2⟩ : S109), (⟨1, 2⟩ : S109)] : List (S109))) (inner := [.int .i64 0, .int .i64 2, .int .i64 1, .int .i64 2]) (ok := fun _ => True) (okp := fun _ => True) ?hr ?hp (fun _ hk => hk) trivial (Below.refl _ _) (Nat.le_refl _) (by simp) ?_; (case hd => rfl); (case hg => rfl); (case hr => first | (go_simp; done) | (go_simp; rfl)); (case hp => exact (Reps.c2 (show Kd.M k109 _ _ _ (⟨0, 2⟩ : S109) [.int .i64 0, .int .i64 2] from (k109_mkM _ _ _ (⟨0, 2⟩ : S109) )) (Reps.c2 (show Kd.M k109 _ _ _ (⟨1, 2⟩ : S109) [.int .i64 1, .int .i64 2] from (k109_mkM _ _ _ (⟨1, 2⟩ : S109) )) (Reps.none _ _)))); intro v140 w73 ho74 hb hg_ hnew_; clear hg_ hnew_; (first | rw [← Ny139.out] at ho74 | (simp only [Int.reduceToNat] at ho74; rw [← Ny139.out] at ho74)); have n0_ := Aside0.mk (Kd.R_elder' (by (with_reducible repeat (first | apply Kd.R_alloc | apply Kd.R_drewN | apply Kd.R_drew)); exact HO138.out) (Kd.R_base ho74) hb); have n1_ := Aside0.mk (Kd.R_lower (Kd.R_new' ho74 (Kd.R_lt (by (with_reducible repeat (first | apply Kd.R_alloc | apply Kd.R_drewN | apply Kd.R_drew)); exact HO138.out))) (below_size (by repeat (first | (with_reducible first | exact HB.out | apply below_alloc | apply pw_below_drewN | apply below_drew1) | exact HB.out)))); have n2_ := Aside0.mk (below_step (by repeat (first | (with_reducible first | exact HB.out | apply below_alloc | apply pw_below_drewN | apply below_drew1) | exact HB.out)) hb); clear HO138; clear HB; have HO138 := n0_; have HO141 := n1_; have HB := n2_; clear n0_ n1_ n2_; clear hb ho74; obtain ⟨Ao75, co75, eo75⟩ := Kd.R_slice HO141.out; subst eo75) | ((with_reducible refine gate_dst (N := 12) rfl ?_); (try (refine gate_guard (by rfl) ?_; dsimp only)); refine Kd.N_lit k96 _ 96 ?hg (N' := 12) ?hd (xs := ([(⟨y139, 3⟩ : S96)] : List (S96))) (inner := [.slice Ao75 y139.length co75, .int .i64 3]) (ok := (fun k_ => some k_ ≠ (v137 : Value).ownBlock)) (okp := (fun k_ => some k_ ≠ (v137 : Value).ownBlock)) ?hr ?hp (fun _ hk => hk) ((show ∀ k_, w73.heap.size ≤ k_ → (fun k_ => some k_ ≠ (v137 : Value).ownBlock) k_ from fun k_ hk => Kd.fresh' (Kd.R_lt (by (with_reducible repeat (first | apply Kd.R_alloc | apply Kd.R_drewN | apply Kd.R_drew)); exact HO138.out)) k_ hk) _ (Nat.le_refl _)) (Below.refl _ _) (Nat.le_refl _) (by simp) ?_; (case hd => rfl); (case hg => rfl); (case hr => first | (go_simp; done) | (go_simp; rfl)); (case hp => exact (Reps.c2 (show Kd.FK k96 _ _ (⟨y139, 3⟩ : S96) [.slice Ao75 y139.length co75, .int .i64 3] from (k96_mkF _ _ (⟨y139, 3⟩ : S96) (Kd.R_reads' (Kd.R_mono (ok' := (fun k_ => some k_ ≠ (v137 : Value).ownBlock)) (HO141.out) (fun k_ hk => hk.2))).2.1 (Kd.R_F (Kd.R_mono (ok' := (fun k_ => some k_ ≠ (v137 : Value).ownBlock)) (HO141.out) (fun k_ hk => hk.2))))) (Reps.none _ _))); intro v143 w76 ho77 hb hg_ hnew_; clear hg_ hnew_; (first | rw [← Ny142.out] at ho77 | (simp only [Int.reduceToNat] at ho77; rw [← Ny142.out] at ho77)); have n0_ := Aside0.mk (Kd.R_below (by (with_reducible repeat (first | apply Kd.R_alloc | apply Kd.R_drewN | apply Kd.R_drew)); exact HO138.out) hb); have n1_ := Aside0.mk (Kd.N_lower ho77 (below_size (by repeat (first | (with_reducible first | exact HB.out | apply below_alloc | apply pw_below_drewN | apply below_drew1) | exact HB.out)))); have n2_ := Aside0.mk (below_step (by repeat (first | (with_reducible first | exact HB.out | apply below_alloc | apply pw_below_drewN | apply below_drew1) | exact HB.out)) hb); clear HO138; clear HB; clear HO141; have HO138 := n0_; have HO144 := n1_; have HB := n2_; clear n0_ n1_ n2_; clear hb ho77; obtain ⟨Ao78, co78, eo78⟩ := Kd.R_slice HO138.out; subst eo78; obtain ⟨Ao79, co79, eo79⟩ := Kd.N_slice HO144.out; subst eo79) | ((with_reducible refine gate_dst (N := 1) rfl ?_); (try (refine gate_guard (by rfl) ?_; dsimp only)); refine box_event ?hg (N := 1) ?hd (cs := #[.int .i64 0, .slice none 0 0, .slice none 0 0, .int .i64 0]) (t := 29) ?hr ?_; (case hd => rfl); (case hg => rfl); (case hr => first | (go_simp; done) | (go_simp; rfl)); intro gb145 hg w80 hbox hb; have n0_ := Aside0.mk (Kd.R_below (by (with_reducible repeat (first | apply Kd.R_alloc | apply Kd.R_drewN | apply Kd.R_drew)); exact HO138.out) hb); have n1_ := Aside0.mk (Kd.N_below (Kd.N_elderB (by (with_reducible repeat (first | apply Kd.N_alloc | apply Kd.N_drewN | apply Kd.N_drew)); exact HO144.out) gb145 (Nat.le_of_eq hg.symm)) hb); have n2_ := Aside0.mk (below_step (by repeat (first | (with_reducible first | exact HB.out | apply below_alloc | apply pw_below_drewN | apply below_drew1) | exact HB.out)) hb); have n3_ := Aside0.mk (hbox); have n4_ := Aside0.mk ((by rw [hg]; exact (below_size (by repeat (first | (with_reducible first | exact HB.out | apply below_alloc | apply pw_below_drewN | apply below_drew1) | exact HB.out))) : w.heap.size ≤ gb145)); have n5_ := Aside0.mk ((by rw [hg]; exact (below_size (by repeat (first | (with_reducible first | exact HB.out | apply below_alloc | apply pw_below_drewN | apply below_drew1) | exact HB.out))) : w.heap.size ≤ gb145)); clear HO138; clear HO144; clear HB; have HO138 := n0_; have HO144 := n1_; have HB := n2_; have BK145 := n3_; have GW145 := n4_; have GE145 := n5_; clear n0_ n1_ n2_ n3_ n4_ n5_; clear hb hbox hg; have hcz81_0 : w80.cell? ⟨gb145, 0, none⟩ = some (.int .i64 0) := (blk_cell BK145.out 0).trans rfl; have hcz81_1 : w80.cell? ⟨gb145, 1, none⟩ = some (.slice none 0 0) := (blk_cell BK145.out 1).trans rfl; have hcz81_2 : w80.cell? ⟨gb145, 2, none⟩ = some (.slice none 0 0) := (blk_cell BK145.out 2).trans rfl; have hcz81_3 : w80.cell? ⟨gb145, 3, none⟩ = some (.int .i64 0) := (blk_cell BK145.out 3).trans rfl; have hfz81_0 := blk_frozen BK145.out 0; have hfz81_1 := blk_frozen BK145.out 1; have hfz81_2 := blk_frozen BK145.out 2; have hfz81_3 := blk_frozen BK145.out 3) | ((with_reducible refine gate_dst (N := 16) rfl ?_); (try (refine gate_guard (by rfl) ?_; dsimp only)); refine Kd.R_lit (Kd.int .i64) _ 3 ?hg (N := 16) ?hd (xs := ([3, 3] : List Int)) (inner := [.int .i64 3, .int .i64 3]) (ok := fun _ => True) (okp := fun _ => True) ?hr ?hp (fun _ hk => hk) trivial (Below.refl _ _) (Nat.le_refl _) (by simp) ?_; (case hd => rfl); (case hg => rfl); (case hr => first | (go_simp; done) | (go_simp; rfl)); (case hp => exact (Reps.one (show Kd.M (Kd.int .i64) _ _ _ 3 [.int .i64 3] from rfl) (Reps.one (show Kd.M (Kd.int .i64) _ _ _ 3 [.int .i64 3] from rfl) (Reps.none _ _)))); intro v147 w82 ho83 hb hg_ hnew_; clear hg_ hnew_; (first | rw [← Ny146.out] at ho83 | (simp only [Int.reduceToNat] at ho83; rw [← Ny146.out] at ho83)); have n0_ := Aside0.mk (Kd.R_below (by (with_reducible repeat (first | apply Kd.R_alloc | apply Kd.R_drewN | apply Kd.R_drew)); exact (Kd.R_mono (Kd.R_far (p := ⟨gb145, 3, none⟩) (Kd.R_far (p := ⟨gb145, 2, none⟩) (Kd.R_far (p := ⟨gb145, 1, none⟩) (Kd.R_far (p := ⟨gb145, 0, none⟩) (Kd.R_types HO138.out BK145.out (by decide)) (fun _ hk => hk.2) (.int .i64 2)) (fun _ hk => hk.2) (.slice Ao79 y142.length co79)) (fun _ hk => hk.2) (.slice Ao78 y136.length co78)) (fun _ hk => hk.2) (.int .i64 0)) (fun _ h_ => h_.1))) hb); have n1_ := Aside0.mk (Kd.N_elder' (by (with_reducible repeat (first | apply Kd.N_alloc | apply Kd.N_drewN | apply Kd.N_drew)); exact (Kd.N_mono (Kd.N_far (p := ⟨gb145, 3, none⟩) (Kd.N_far (p := ⟨gb145, 2, none⟩) (Kd.N_far (p := ⟨gb145, 1, none⟩) (Kd.N_far (p := ⟨gb145, 0, none⟩) (Kd.N_mono HO144.out (fun k_ hk => (⟨hk, hk.2⟩ : _ ∧ k_ ≠ gb145))) (fun _ hk => hk.2) (.int .i64 2)) (fun _ hk => hk.2) (.slice Ao79 y142.length co79)) (fun _ hk => hk.2) (.slice Ao78 y136.length co78)) (fun _ hk => hk.2) (.int .i64 0)) (fun _ h_ => h_.1))) (Kd.R_base ho83) hb); have n2_ := Aside0.mk (Kd.R_lower ho83 (below_size (by repeat (first | (with_reducible first | exact HB.out | apply below_alloc | apply pw_below_drewN | apply below_drew1 | refine below_set ?_ GE145.out) | exact HB.out)))); have n3_ := Aside0.mk (blk_below (g := gb145) (o := .cells #[.int .i64 2, .slice Ao79 y142.length co79, .slice Ao78 y136.length co78, .int .i64 0] 29 (0, 0)) (by (with_reducible repeat (first | refine blk_drewN ?_ _ | refine blk_drew ?_ | refine blk_alloc ?_ _)); refine blk_put (cs := #[.int .i64 2, .slice Ao79 y142.length co79, .slice Ao78 y136.length co78, .int .i64 0]) ?_ 3 _ rfl; (with_reducible repeat (first | refine blk_drewN ?_ _ | refine blk_drew ?_ | refine blk_alloc ?_ _)); refine blk_put (cs := #[.int .i64 2, .slice Ao79 y142.length co79, .slice none 0 0, .int .i64 0]) ?_ 2 _ rfl; (with_reducible repeat (first | refine blk_drewN ?_ _ | refine blk_drew ?_ | refine blk_alloc ?_ _)); refine blk_put (cs := #[.int .i64 2, .slice none 0 0, .slice none 0 0, .int .i64 0]) ?_ 1 _ rfl; (with_reducible repeat (first | refine blk_drewN ?_ _ | refine blk_drew ?_ | refine blk_alloc ?_ _)); refine blk_put (cs := #[.int .i64 0, .slice none 0 0, .slice none 0 0, .int .i64 0]) ?_ 0 _ rfl; (with_reducible repeat (first | refine blk_drewN ?_ _ | refine blk_drew ?_ | refine blk_alloc ?_ _)); exact BK145.out) hb); have n4_ := Aside0.mk (below_step (by repeat (first | (with_reducible first | exact HB.out | apply below_alloc | apply pw_below_drewN | apply below_drew1 | refine below_set ?_ GE145.out) | exact HB.out)) hb); clear HO138; clear HO144; clear BK145; clear HB; have HO138 := n0_; have HO144 := n1_; have HO148 := n2_; have BK145 := n3_; have HB := n4_; clear n0_ n1_ n2_ n3_ n4_; clear hb ho83; obtain ⟨Ao84, co84, eo84⟩ := Kd.R_slice HO148.out; subst eo84) | ((with_reducible refine gate_callee (f := 22) rfl ?_); refine goesL_ (some 17) rfl rfl Try.func22 (by kernel_rfl) rfl #[.agg #[.int .i64 2, .slice Ao79 y142.length co79, .slice Ao78 y136.length co78, .int .i64 0], .slice Ao84 y146.length co84] rfl (by (try simp only [List.map_toArray, List.map_cons, List.map_nil]); first | done | rfl | (simp only [List.length_drop, List.length_take]; rfl)) ?_; (with_reducible refine (integer_Solve.calls k 2 _ _ y142 _ _ y136 0 _ _ y146 t149 t150 t153 _ ?side1 ?side2 ?side3 ?side4 ?side5 ?side6 A1.out).mono ?_); (case side1 => repeat (first | exact (Kd.N_reads' HO144.out).2.2 | (with_reducible refine Kd.C_alloc ?_ _) | (with_reducible refine Kd.C_drewN ?_ _) | (with_reducible refine Kd.C_drew ?_))); (case side2 => exact (Kd.N_reads' HO144.out).2.1); (case side3 => repeat (first | exact (Kd.R_reads' HO138.out).2.2 | (with_reducible refine Kd.C_alloc ?_ _) | (with_reducible refine Kd.C_drewN ?_ _) | (with_reducible refine Kd.C_drew ?_))); (case side4 => exact (Kd.R_reads' HO138.out).2.1); (case side5 => repeat (first | exact (Kd.R_reads' HO148.out).2.2 | (with_reducible refine Kd.C_alloc ?_ _) | (with_reducible refine Kd.C_drewN ?_ _) | (with_reducible refine Kd.C_drew ?_))); (case side6 => exact (Kd.R_reads' HO148.out).2.1); rintro e w85 ⟨v151, rfl, ho0, hb⟩; refine ⟨_, rfl, ?_⟩; have n0_ := Aside0.mk (Kd.R_below (by (with_reducible repeat (first | apply Kd.R_alloc | apply Kd.R_drewN | apply Kd.R_drew)); exact HO138.out) hb); have n1_ := Aside0.mk (Kd.N_elder' (by (with_reducible repeat (first | apply Kd.N_alloc | apply Kd.N_drewN | apply Kd.N_drew)); exact HO144.out) (Kd.R_base ho0) hb); have n2_ := Aside0.mk (Kd.R_elder' (by (with_reducible repeat (first | apply Kd.R_alloc | apply Kd.R_drewN | apply Kd.R_drew)); exact HO148.out) (Kd.R_base ho0) hb); have n3_ := Aside0.mk (Kd.R_lower (Kd.R_new' ho0 (Kd.R_lt (by (with_reducible repeat (first | apply Kd.R_alloc | apply Kd.R_drewN | apply Kd.R_drew)); exact HO148.out))) (below_size (by repeat (first | (with_reducible first | exact HB.out | apply below_alloc | apply pw_below_drewN | apply below_drew1 | refine below_set ?_ GE145.out) | exact HB.out)))); have n4_ := Aside0.mk (blk_below (g := gb145) (o := .cells #[.int .i64 2, .slice Ao79 y142.length co79, .slice Ao78 y136.length co78, .int .i64 0] 29 (0, 0)) (by (with_reducible repeat (first | refine blk_drewN ?_ _ | refine blk_drew ?_ | refine blk_alloc ?_ _)); exact BK145.out) hb); have n5_ := Aside0.mk (below_step (by repeat (first | (with_reducible first | exact HB.out | apply below_alloc | apply pw_below_drewN | apply below_drew1 | refine below_set ?_ GE145.out) | exact HB.out)) hb); clear HO138; clear HO144; clear HO148; clear BK145; clear HB; have HO138 := n0_; have HO144 := n1_; have HO148 := n2_; have HO152 := n3_; have BK145 := n4_; have HB := n5_; clear n0_ n1_ n2_ n3_ n4_ n5_; (try clear hb); (try clear hb2); (try clear hk); (try clear hi); (try clear ho0)))
    go_ret
    exact ⟨by first | rfl | (simp [errW_none, errW_some] <;> rfl) | (simp [*, errW_none, errW_some] <;> rfl), by repeat (first | (with_reducible first | exact HB.out | apply below_alloc | apply pw_below_drewN | apply below_drew1 | refine below_set ?_ GE145.out) | exact HB.out)⟩

/-- A state of type 111 at block g of W; what its slices lead to came in by w0. -/
def IsS111 (w0 W : World) (g : Nat) (f0 : List Int) (f1 : Int) : Prop := ∃ A0 c0, W.heap[g]? = some (.cells #[.slice A0 f0.length c0, .int .i64 f1] 111 (0, 0)) ∧ w0.heap.size ≤ g ∧ Kd.C (Kd.int .i64) w0 A0 f0.length f0
theorem IsS111.grown {w0 W : World} {g : Nat} {f0 : List Int} {f1 : Int} {W1 : World} {row : Option Nat} (h : IsS111 w0 W g f0 f1) (hw : W.grownBy W1 row) (hne : some g ≠ row) : IsS111 w0 W1 g f0 f1 := by
  obtain ⟨A0, c0, hb, hg, hr0⟩ := h
  exact ⟨A0, c0, blk_grown hb hw hne, hg, hr0⟩
theorem IsS111.own_neN {w0 W : World} {g : Nat} {f0 : List Int} {f1 : Int} {α : Type} {d : Kd α} {e : Nat} {base : Nat} {ok : Nat → Prop} {v : Value} {xs : List α} (h : IsS111 w0 W g f0 f1) (ho : Kd.N d e W base ok v xs) (ht : e ≠ 111) : some g ≠ v.ownBlock := by
  obtain ⟨A0, c0, hb, hg, hr0⟩ := h
  exact Kd.N_ne ho hb ht
theorem IsS111.fresh {w0 W : World} {g : Nat} {f0 : List Int} {f1 : Int} (h : IsS111 w0 W g f0 f1) : ∀ k, W.heap.size ≤ k → k ≠ g := by
  obtain ⟨A0, c0, hb, hg, hr0⟩ := h
  exact Kd.freshB hb
theorem IsS111.kept {w0 W : World} {g : Nat} {f0 : List Int} {f1 : Int} {W1 : World} {S : Nat → Prop} (h : IsS111 w0 W g f0 f1) (hk : Kept W W1 S) (hne : ¬ S g) : IsS111 w0 W1 g f0 f1 := by
  obtain ⟨A0, c0, hb, hg, hr0⟩ := h
  exact ⟨A0, c0, blk_kept hb hk hne, hg, hr0⟩
theorem IsS111.below {w0 W : World} {g : Nat} {f0 : List Int} {f1 : Int} {W1 : World} (h : IsS111 w0 W g f0 f1) (hw : Below W.heap.size W W1) : IsS111 w0 W1 g f0 f1 := h.grown (grown_of_below hw none) (by simp)
theorem IsS111.alloc {w0 W : World} {g : Nat} {f0 : List Int} {f1 : Int} (h : IsS111 w0 W g f0 f1) (o : Obj) : IsS111 w0 (W.alloc o) g f0 f1 := h.below (below_alloc (Below.refl _ _) o)
theorem IsS111.drewN {w0 W : World} {g : Nat} {f0 : List Int} {f1 : Int} (h : IsS111 w0 W g f0 f1) (m : Nat) : IsS111 w0 (W.drewN m) g f0 f1 := h
theorem IsS111.drew {w0 W : World} {g : Nat} {f0 : List Int} {f1 : Int} (h : IsS111 w0 W g f0 f1) : IsS111 w0 W.drew g f0 f1 := h
theorem IsS111.at_ {w0 W : World} {g : Nat} {f0 : List Int} {f1 : Int} {w' : World} {m : Nat} (hq : W.drewN m = w') (h : IsS111 w0 W g f0 f1) : IsS111 w0 w' g f0 f1 := by subst hq; exact IsS111.drewN h m
theorem IsS111.apart {w0 W : World} {g : Nat} {f0 : List Int} {f1 : Int} {α : Type} {d : Kd α} {e : Nat} {base : Nat} {ok : Nat → Prop} {v : Value} {xs : List α} (h : IsS111 w0 W g f0 f1) (ho : d.R e W base ok v xs) (ht : ∀ q, q ∈ e :: d.E → q ≠ 111) : d.R e W base (fun k => ok k ∧ k ≠ g) v xs := by
  obtain ⟨A0, c0, hb, hg, hr0⟩ := h
  exact Kd.R_types ho hb ht
theorem IsS111.own_ne {w0 W : World} {g : Nat} {f0 : List Int} {f1 : Int} {α : Type} {d : Kd α} {e : Nat} {base : Nat} {ok : Nat → Prop} {v : Value} {xs : List α} (h : IsS111 w0 W g f0 f1) (ho : d.R e W base ok v xs) (ht : e ≠ 111) : some g ≠ v.ownBlock := by
  obtain ⟨A0, c0, hb, hg, hr0⟩ := h
  exact Kd.R_ne ho hb ht
theorem IsS111.apartQ {w0 W : World} {g : Nat} {f0 : List Int} {f1 : Int} {α : Type} {d : Kd α} {e : Nat} {base : Nat} {ok : Nat → Prop} {v : Value} {xs : List α} (h : IsS111 w0 W g f0 f1) (ho : d.Q e W base ok v xs) (ht : ∀ q, q ∈ e :: d.E → q ≠ 111) : d.Q e W base (fun k => ok k ∧ k ≠ g) v xs := by
  obtain ⟨A0, c0, hb, hg, hr0⟩ := h
  exact Kd.Q_types ho hb ht
theorem IsS111.own_neQ {w0 W : World} {g : Nat} {f0 : List Int} {f1 : Int} {α : Type} {d : Kd α} {e : Nat} {base : Nat} {ok : Nat → Prop} {v : Value} {xs : List α} (h : IsS111 w0 W g f0 f1) (ho : d.Q e W base ok v xs) (ht : e ≠ 111) : some g ≠ v.ownBlock := by
  obtain ⟨A0, c0, hb, hg, hr0⟩ := h
  exact Kd.Q_ne ho hb ht
theorem IsS111.apartS {w0 W : World} {g : Nat} {f0 : List Int} {f1 : Int} {α : Type} {d : Kd α} {e : Nat} {base : Nat} {ok : Nat → Prop} {v : Value} {xs : List α} (h : IsS111 w0 W g f0 f1) (ho : d.S e W base ok v xs) (ht : ∀ q, q ∈ e :: d.E → q ≠ 111) : d.S e W base (fun k => ok k ∧ k ≠ g) v xs := by
  obtain ⟨A0, c0, hb, hg, hr0⟩ := h
  exact Kd.S_types ho hb ht
theorem IsS111.own_neS {w0 W : World} {g : Nat} {f0 : List Int} {f1 : Int} {α : Type} {d : Kd α} {e : Nat} {base : Nat} {ok : Nat → Prop} {v : Value} {xs : List α} (h : IsS111 w0 W g f0 f1) (ho : d.S e W base ok v xs) (ht : e ≠ 111) : some g ≠ v.ownBlock := by
  obtain ⟨A0, c0, hb, hg, hr0⟩ := h
  exact Kd.S_ne ho hb ht
theorem IsS111.lt {w0 W : World} {g : Nat} {f0 : List Int} {f1 : Int} (h : IsS111 w0 W g f0 f1) : g < W.heap.size := by
  obtain ⟨A0, c0, hb, hg, hr0⟩ := h
  exact blk_lt hb
theorem IsS111.ge {w0 W : World} {g : Nat} {f0 : List Int} {f1 : Int} (h : IsS111 w0 W g f0 f1) : w0.heap.size ≤ g := by
  obtain ⟨A0, c0, hb, hg, hr0⟩ := h
  exact hg
theorem IsS111.ne_blk {w0 W : World} {g : Nat} {f0 : List Int} {f1 : Int} {a : Nat} {cs : Array Value} {t : TypeId} {fr : Nat × Nat} (h : IsS111 w0 W g f0 f1) (hb2 : W.heap[a]? = some (.cells cs t fr)) (ht : t ≠ 111) : g ≠ a := by
  obtain ⟨A0, c0, hb, hg, hr0⟩ := h
  rintro rfl
  rw [hb] at hb2
  injection hb2 with hb2
  injection hb2 with _ ht2
  exact ht ht2.symm
theorem IsS111.far {w0 W : World} {g : Nat} {f0 : List Int} {f1 : Int} {p : Addr} (h : IsS111 w0 W g f0 f1) (hne : g ≠ p.block) (u : Value) : IsS111 w0 (W.setCell p u) g f0 f1 := by
  obtain ⟨A0, c0, hb, hg, hr0⟩ := h
  exact ⟨A0, c0, blk_far hb hne u, hg, hr0⟩
theorem cellS111_0 {W : World} {g : Nat} {A0 : Option Addr} {c0 : Nat} {f0 : List Int} {f1 : Int} (h : W.heap[g]? = some (.cells #[.slice A0 f0.length c0, .int .i64 f1] 111 (0, 0))) : W.cell? ⟨g, 0, none⟩ = some (.slice A0 f0.length c0) := (blk_cell h 0).trans rfl
theorem cellS111_1 {W : World} {g : Nat} {A0 : Option Addr} {c0 : Nat} {f0 : List Int} {f1 : Int} (h : W.heap[g]? = some (.cells #[.slice A0 f0.length c0, .int .i64 f1] 111 (0, 0))) : W.cell? ⟨g, 1, none⟩ = some (.int .i64 f1) := (blk_cell h 1).trans rfl
theorem IsS111.set_1 {w0 W : World} {g : Nat} {f0 : List Int} {f1 : Int} (h : IsS111 w0 W g f0 f1) (x : Int) : IsS111 w0 (W.setCell ⟨g, 1, none⟩ (.int .i64 x)) g f0 x := by
  obtain ⟨A0, c0, hb, hg, hr0⟩ := h
  exact ⟨A0, c0, by simpa using blk_set hb 1 (.int .i64 x), hg, hr0⟩
theorem IsS111.new (w0 W : World) (A0 : Option Addr) (c0 : Nat) (f0 : List Int) (f1 : Int) (hB : Below w0.heap.size w0 W) (hr0 : Kd.C (Kd.int .i64) w0 A0 f0.length f0) : IsS111 w0 (W.alloc (.cells #[.slice A0 f0.length c0, .int .i64 f1] 111)) W.heap.size f0 f1 := ⟨A0, c0, by simpa using heap_alloc_new W _, hB.size, hr0⟩

/-! ### timeboundmake_New: function 16 -/
def timeboundmake_New.f (l0 : List Int) : Option (List Int × Int) := some (l0, 0)
set_option maxHeartbeats 8000000 in
set_option maxRecDepth 100000 in
theorem timeboundmake_New.calls (A0 : Option Addr) (c0 : Nat) (l0 : List Int) (r1 : List Int) (r2 : Int) (w0 w : World) (hB : Below w0.heap.size w0 w) (hr0 : Kd.C (Kd.int .i64) w0 A0 l0.length l0) (hc0 : l0.length ≤ c0) (h : timeboundmake_New.f l0 = some (r1, r2)) :
    Calls Try.prog 16 #[.slice A0 l0.length c0] w fun e w' => ∃ g_ : Nat, e = .returned (.pointer (some ⟨g_, 0, none⟩)) ∧ IsS111 w0 w' g_ r1 r2 ∧ Below w0.heap.size w0 w' ∧ Below w.heap.size w w' := by
  have hu111 := Try.underlying111
  have HR0 := Aside0.mk hr0
  have HC0 := Aside0.mk hc0
  clear hr0 hc0
  have HBW := Aside0.mk (Below.refl w.heap.size w)
  have HW0 := Aside0.mk hB.size
  have HB := Aside0.mk hB
  clear hB
  have H : (some (l0, 0)) = some (r1, r2) := h
  clear h
  simp only [Option.some.injEq, Prod.mk.injEq] at H
  obtain ⟨rfl, rfl⟩ := H
  go_enter Try.func16, Try.ntmps16
  go_wp2_with (first | ((with_reducible refine gate_dst (N := 5) rfl ?_); refine box_event ?hg (N := 5) ?hd (cs := #[.slice A0 l0.length c0, .int .i64 0]) (t := 111) ?hr ?_; (case hd => rfl); (case hg => rfl); (case hr => first | (go_simp; done) | (go_simp; rfl)); intro gb156 hg w2 hbox hb; have n0_ := Aside0.mk (below_step HBW.out hb); have n1_ := Aside0.mk (below_step (by repeat (first | (with_reducible first | exact HB.out | apply below_alloc | apply pw_below_drewN | apply below_drew1) | exact HB.out)) hb); have n2_ := Aside0.mk (hbox); have n3_ := Aside0.mk ((by rw [hg]; exact (below_size (by repeat (first | (with_reducible first | exact HBW.out | apply below_alloc | apply pw_below_drewN | apply below_drew1) | exact HBW.out))) : w.heap.size ≤ gb156)); have n4_ := Aside0.mk ((Nat.le_trans HW0.out (by rw [hg]; exact (below_size (by repeat (first | (with_reducible first | exact HBW.out | apply below_alloc | apply pw_below_drewN | apply below_drew1) | exact HBW.out))) : w.heap.size ≤ gb156) : w0.heap.size ≤ gb156)); clear HBW; clear HB; have HBW := n0_; have HB := n1_; have BK156 := n2_; have GW156 := n3_; have GE156 := n4_; clear n0_ n1_ n2_ n3_ n4_; clear hb hbox hg))
  go_ret
  exact ⟨_, rfl, (show IsS111 w0 _ gb156 l0 0 from ⟨_, _, by (with_reducible repeat (first | refine blk_drewN ?_ _ | refine blk_drew ?_ | refine blk_alloc ?_ _)); exact BK156.out, GE156.out, HR0.out⟩), by repeat (first | (with_reducible first | exact HB.out | apply below_alloc | apply pw_below_drewN | apply below_drew1 | refine below_set ?_ GE156.out) | exact HB.out), by repeat (first | (with_reducible first | exact HBW.out | apply below_alloc | apply pw_below_drewN | apply below_drew1 | refine below_set ?_ GW156.out) | exact HBW.out)⟩

/-! ### timeboundmake_Mod: function 36 -/
def timeboundmake_Mod.f (a0 : Int) (a1 : Int) : Option (Int) := if a1 = 0 then (none) else (some (Int.tmod (wrap64 ((Int.tmod a0 a1) + a1)) a1))
set_option maxHeartbeats 8000000 in
set_option maxRecDepth 100000 in
theorem timeboundmake_Mod.calls (a0 : Int) (a1 : Int) (r : Int) (w : World) (h : timeboundmake_Mod.f a0 a1 = some r) :
    Calls Try.prog 36 #[.int .i64 a0, .int .i64 a1] w fun e w' => e = .returned (.int .i64 r) ∧ Drawn0 w w' := by
  have H : (if a1 = 0 then (none) else (some (Int.tmod (wrap64 ((Int.tmod a0 a1) + a1)) a1))) = some r := h
  clear h
  by_cases c3 : a1 = 0
  · rw [if_pos c3] at H
    exact absurd H (by simp)
  · rw [if_neg c3] at H
    have c3b0 : (a1 == 0) = false := beq_eq_false_iff_ne.mpr c3
    have c3b1 : (a1 != 0) = true := bne_iff_ne.mpr c3
    obtain rfl := Option.some.inj H
    go_enter Try.func36, Try.ntmps36
    go_wp2
    go_ret
    exact ⟨by first | rfl | (simp; done) | (simp [*]; done), by repeat (first | exact Drawn0.refl _ | apply Drawn0.step)⟩

/-! ### timeboundmake_Deck_Next: function 18 -/
def timeboundmake_Deck_Next.f (s0_0 : List Int) (s0_1 : Int) (a1 : Int) : Option (Int × Int) := if s0_1 ≥ (s0_0.length : Int) then (some (0, s0_1)) else (if a1 ≤ 1 then (some (0, s0_1)) else (if 0 ≤ (wrap64 ((wrap64 (s0_1 + 1)) - 1)) then (if (wrap64 ((wrap64 (s0_1 + 1)) - 1)) < (s0_0.length : Int) then ((timeboundmake_Mod.f (rd s0_0 (wrap64 ((wrap64 (s0_1 + 1)) - 1))) a1).bind fun t158 => (some (t158, wrap64 (s0_1 + 1)))) else (none)) else (none)))
set_option maxHeartbeats 8000000 in
set_option maxRecDepth 100000 in
theorem timeboundmake_Deck_Next.calls (g : Nat) (s0_0 : List Int) (s0_1 : Int) (a1 : Int) (r1 : Int) (r2 : Int) (w0 w : World) (hI : IsS111 w0 w g s0_0 s0_1) (hB : Below w0.heap.size w0 w) (h : timeboundmake_Deck_Next.f s0_0 s0_1 a1 = some (r1, r2)) :
    Calls Try.prog 18 #[.pointer (some ⟨g, 0, none⟩), .int .i64 a1] w fun e w' => e = .returned (.int .i64 r1) ∧ IsS111 w0 w' g s0_0 r2 ∧ Below w0.heap.size w0 w' ∧ KeepBut w w' g none := by
  have HI0 := Aside0.mk hI
  have HK := Aside0.mk (KeepBut.refl w g none)
  have HL := Aside0.mk hB.size
  clear hI
  have HW0 := Aside0.mk hB.size
  have HB := Aside0.mk hB
  clear hB
  have H : (if s0_1 ≥ (s0_0.length : Int) then (some (0, s0_1)) else (if a1 ≤ 1 then (some (0, s0_1)) else (if 0 ≤ (wrap64 ((wrap64 (s0_1 + 1)) - 1)) then (if (wrap64 ((wrap64 (s0_1 + 1)) - 1)) < (s0_0.length : Int) then ((timeboundmake_Mod.f (rd s0_0 (wrap64 ((wrap64 (s0_1 + 1)) - 1))) a1).bind fun t158 => (some (t158, wrap64 (s0_1 + 1)))) else (none)) else (none)))) = some (r1, r2) := h
  clear h
  by_cases c3 : s0_1 ≥ (s0_0.length : Int)
  · rw [if_pos c3] at H
    have c3b0 : decide ((s0_0.length : Int) ≤ s0_1) = true := decide_eq_true c3
    clear c3
    simp only [Option.some.injEq, Prod.mk.injEq] at H
    obtain ⟨rfl, rfl⟩ := H
    obtain ⟨ASz4_0, cSz4_0, HGz4, hgz4, HSz4_0⟩ := HI0.out
    have hcz4_0 := cellS111_0 HGz4
    have hcz4_1 := cellS111_1 HGz4
    have hfz4_1 := blk_frozen HGz4 1
    clear HGz4 hgz4
    go_enter Try.func18, Try.ntmps18
    go_wp2
    try go_quiet (fail)
    try go_wp2
    go_ret
    exact ⟨by first | rfl | (simp [errW_none, errW_some] <;> rfl) | (simp [*, errW_none, errW_some] <;> rfl), by repeat (first | (with_reducible first | exact HI0.out | apply IsS111.alloc | apply IsS111.drewN | apply IsS111.drew | apply IsS111.set_1) | exact HI0.out), by repeat (first | (with_reducible first | exact HB.out | apply below_alloc | apply pw_below_drewN | apply below_drew1 | refine below_set ?_ (IsS111.ge HI0.out)) | exact HB.out), by repeat (first | (with_reducible first | exact HK.out | apply KeepBut.set_ | apply keep_drewN | apply keep_drew | apply keep_alloc) | exact HK.out)⟩
  · rw [if_neg c3] at H
    have c3b0 : decide ((s0_0.length : Int) ≤ s0_1) = false := decide_eq_false c3
    clear c3
    by_cases c5 : a1 ≤ 1
    · rw [if_pos c5] at H
      have c5b0 : decide (a1 ≤ 1) = true := decide_eq_true c5
      clear c5
      simp only [Option.some.injEq, Prod.mk.injEq] at H
      obtain ⟨rfl, rfl⟩ := H
      obtain ⟨ASz6_0, cSz6_0, HGz6, hgz6, HSz6_0⟩ := HI0.out
      have hcz6_0 := cellS111_0 HGz6
      have hcz6_1 := cellS111_1 HGz6
      have hfz6_1 := blk_frozen HGz6 1
      clear HGz6 hgz6
      go_enter Try.func18, Try.ntmps18
      go_wp2
      try go_quiet (fail)
      try go_wp2
      go_ret
      exact ⟨by first | rfl | (simp [errW_none, errW_some] <;> rfl) | (simp [*, errW_none, errW_some] <;> rfl), by repeat (first | (with_reducible first | exact HI0.out | apply IsS111.alloc | apply IsS111.drewN | apply IsS111.drew | apply IsS111.set_1) | exact HI0.out), by repeat (first | (with_reducible first | exact HB.out | apply below_alloc | apply pw_below_drewN | apply below_drew1 | refine below_set ?_ (IsS111.ge HI0.out)) | exact HB.out), by repeat (first | (with_reducible first | exact HK.out | apply KeepBut.set_ | apply keep_drewN | apply keep_drew | apply keep_alloc) | exact HK.out)⟩
    · rw [if_neg c5] at H
      have c5b0 : decide (a1 ≤ 1) = false := decide_eq_false c5
      clear c5
      obtain ⟨ji7, hji7⟩ : ∃ j_ : Int, (wrap64 ((wrap64 (s0_1 + 1)) - 1)) = j_ := ⟨_, rfl⟩
      replace H : (if 0 ≤ (ji7) then (if (ji7) < (s0_0.length : Int) then ((timeboundmake_Mod.f (rd s0_0 (ji7)) a1).bind fun t158 => (some (t158, wrap64 (s0_1 + 1)))) else (none)) else (none)) = some (r1, r2) := by first | (rw [hji7] at H; exact H) | (simp only [hji7] at H ⊢; exact H)
      have hji7w : (IntKind.i64.wrap ((wrap64 (s0_1 + 1)) - 1)) = ji7 := (i64_w _).trans hji7
      by_cases c8 : 0 ≤ (ji7)
      · rw [if_pos c8] at H
        have c8b0 : decide (0 ≤ (ji7)) = true := decide_eq_true c8
        clear c8
        by_cases c9 : (ji7) < (s0_0.length : Int)
        · rw [if_pos c9] at H
          have c9b0 : decide ((ji7) < (s0_0.length : Int)) = true := decide_eq_true c9
          clear c9
          replace H := Option.bind_eq_some_iff.mp H
          obtain ⟨t158, A100, H⟩ := H
          replace H : (some (t158, wrap64 (s0_1 + 1))) = some (r1, r2) := H
          have A10 := Aside0.mk A100
          clear A100
          simp only [Option.some.injEq, Prod.mk.injEq] at H
          obtain ⟨rfl, rfl⟩ := H
          obtain ⟨ASz11_0, cSz11_0, HGz11, hgz11, HSz11_0⟩ := HI0.out
          have hcz11_0 := cellS111_0 HGz11
          have hcz11_1 := cellS111_1 HGz11
          have hfz11_1 := blk_frozen HGz11 1
          clear HGz11 hgz11
          have p157 : 0 ≤ ((ji7) : Int) := of_decide_eq_true (by first | (with_reducible assumption) | assumption)
          have q157 : (ji7) < (s0_0.length : Int) := of_decide_eq_true (by first | (with_reducible assumption) | assumption)
          obtain ⟨ad157, e157, hx157_0⟩ := Kd.at_int HSz11_0 (ji7) p157 q157
          cases e157
          have hn157_0 : ad157.block ≠ g := Nat.ne_of_lt (Nat.lt_of_lt_of_le (by have := World.block_lt_of_cell? _ _ hx157_0; first | rwa [add_block] at this | exact this) (IsS111.ge HI0.out))
          replace hx157_0 := pw_cell_below HB.out hx157_0
          replace hx157_0 := (cell_far (p := ⟨g, 1, none⟩) (by first | (rw [add_block]; exact hn157_0) | (show (Addr.add _ _).block ≠ _; rw [add_block]; exact hn157_0) | exact hn157_0) (.int .i64 (wrap64 (s0_1 + 1)))).trans hx157_0
          (try have hy157_0 := fun (n_ : Nat) => (show (((w.drewN n_).setCell ⟨g, 1, none⟩ (.int .i64 (wrap64 (s0_1 + 1))))).cell? _ = some _ from hx157_0))
          clear hn157_0
          replace p157 := eq_true p157
          replace q157 := eq_true q157
          go_enter Try.func18, Try.ntmps18
          go_wp2
          try go_quiet (fail)
          try go_wp2
          try go_quiet (first | (go_at_call 36; (with_reducible refine (timeboundmake_Mod.calls (rd s0_0 (ji7)) a1 t158 _ A10.out).mono ?_); rintro e w' ⟨rfl, ⟨nd, rfl⟩⟩; (try first | exact ⟨rfl, _, World.drewN_drewN _ _ _⟩ | exact ⟨rfl, _, Eq.trans (World.drewN_drewN _ _ _) (congrArg (World.drewN _) (Nat.add_assoc _ _ _))⟩)))
          try go_wp2
          go_ret
          exact ⟨by first | rfl | (simp [errW_none, errW_some] <;> rfl) | (simp only [← hji7]; first | rfl | (simp [errW_none, errW_some] <;> rfl)) | (simp [*, errW_none, errW_some] <;> rfl), by repeat (first | (with_reducible first | exact HI0.out | apply IsS111.alloc | apply IsS111.drewN | apply IsS111.drew | apply IsS111.set_1) | exact HI0.out), by repeat (first | (with_reducible first | exact HB.out | apply below_alloc | apply pw_below_drewN | apply below_drew1 | refine below_set ?_ (IsS111.ge HI0.out)) | exact HB.out), by repeat (first | (with_reducible first | exact HK.out | apply KeepBut.set_ | apply keep_drewN | apply keep_drew | apply keep_alloc) | exact HK.out)⟩
        · rw [if_neg c9] at H
          exact absurd H (by simp)
      · rw [if_neg c8] at H
        exact absurd H (by simp)

end Go.Proofs.Ytdgegoefehmfmaa.QIntegerSolves
