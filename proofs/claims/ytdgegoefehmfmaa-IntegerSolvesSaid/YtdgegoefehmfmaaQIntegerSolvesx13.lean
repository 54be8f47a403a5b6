-- Written for this claim by this session's own program (wip/pp).
import Derived.Test.YtdgegoefehmfmaaQIntegerSolvesx0
import Derived.Test.YtdgegoefehmfmaaQIntegerSolvesx3
import Derived.Test.YtdgegoefehmfmaaQIntegerSolvesx4
import Derived.Test.YtdgegoefehmfmaaQIntegerSolvesx5
import Derived.Test.YtdgegoefehmfmaaQIntegerSolvesx6
import Derived.Test.YtdgegoefehmfmaaQIntegerSolvesx9
import Derived.Test.YtdgegoefehmfmaaQIntegerSolvesx10
import Derived.Test.YtdgegoefehmfmaaQIntegerSolvesx11
import Derived.Test.YtdgegoefehmfmaaQIntegerSolvesx12
namespace Go.Proofs.Ytdgegoefehmfmaa.QIntegerSolves
open Go.RowKit Go.Proofs.YtdgegoefehmfmaaW.PrintWords Go.Proofs.YtdgegoefehmfmaaW.PrintLast Go.Proofs.YtdgegoefehmfmaaW.PrintMore
attribute [local go_sem] max2_int min2_int max_two min_two max_three min_three max_four min_four   -- for this text's walks alone
set_option linter.unusedVariables false
set_option linter.unusedSimpArgs false

/-! ### timeboundlaw33_IntegerSolves: function 3 -/
/-- Both say the same of a box. -/
def Same33 (k : Nat) (n : Int) (rows : List S96) (goal : List S109) (const : Int) (most : List Int) : Prop :=
  ∃ b1 b2 b3 b4 b5 v p g, integer_Boxed.f k n rows goal const most = some (b1, b2, b3, b4, b5) ∧ timeboundref33_Boxed.f k n rows goal const most = some (b1, b2, b3, b4, b5) ∧
    integer_Solve.f k n rows goal const most = some (v, p, g) ∧ timeboundref33_Solve.f k n rows goal const most = some (v, p, g) ∧ timeboundref33_Same.f k b1 b2 b3 b4 b1 b2 b3 b4 = some true ∧ timeboundref01_SameInts.f k p p = some true
/-- Both say the same of columns. -/
def Vals33 (k : Nat) (n : Int) (rows : List S96) (goal : List S109) (const : Int) (z : List Int) : Prop := ∃ v ok, integer_Value.f k n rows goal const z = some (v, ok) ∧ timeboundref33_Value.f k n rows goal const z = some (v, ok)
/-- The columns that are made. -/
def YOk (s : List Int) : Nat → List Int → Int → List Int → Prop
  | 0, y, _, z => y = z
  | n + 1, y, q, z => ∃ a q1 b q2, timeboundmake_Deck_Next.f s q 5 = some (a, q1) ∧ 0 ≤ a ∧ a < 5 ∧ timeboundmake_Deck_Next.f s q1 8 = some (b, q2) ∧ 0 ≤ b ∧ b < 8 ∧ YOk s n (y ++ [a - b / 7]) q2 z
def timeboundlaw33_IntegerSolves.Pure : Prop := (∃ k, timeboundlaw33_awake.f k = some true) ∧ ∀ (l0 l1 l2 : List Int), l0.length ≤ 20 → l2.length ≤ 20 → l1.length * 8 ≤ 140737488351232 →
  ∃ k v1 q1 n rows goal const q2 box q3 y, timeboundmake_Deck_Next.f l1 0 6 = some (v1, q1) ∧ 0 ≤ v1 ∧ v1 < 6 ∧ timeboundmake2_Model.f k l1 q1 (4 + v1 / 5) = some (n, rows, goal, const, q2) ∧ 0 ≤ n ∧ n ≤ 300 ∧ timeboundmake2_Box.f k l1 q2 n rows goal const = some (box, q3) ∧
    Same33 k n rows goal const box ∧ Same33 k n rows goal const l0 ∧ YOk l1 n.toNat [] q3 y ∧ Vals33 k n rows goal const l2 ∧ Vals33 k n rows goal const y
/-- A model in a variable: where it lies, and what it leads to. -/
structure MS (W : World) (b : Nat) (n : Int) (A1 : Option Addr) (c1 : Nat) (rows : List S96) (A2 : Option Addr) (c2 : Nat) (goal : List S109) (const : Int) : Prop where
  M : W.heap[b]? = some (.cells #[.int .i64 n, .slice A1 rows.length c1, .slice A2 goal.length c2, .int .i64 const] 29 (0, 0))
  C1 : Kd.C k96 W A1 rows.length rows
  C2 : Kd.C k109 W A2 goal.length goal
theorem MS.below {W W' : World} {b c1 c2 : Nat} {n const : Int} {A1 A2 : Option Addr} {rows : List S96} {goal : List S109} (h : MS W b n A1 c1 rows A2 c2 goal const) (hb : Below W.heap.size W W') : MS W' b n A1 c1 rows A2 c2 goal const := ⟨blk_below h.M hb, Kd.C_below h.C1 hb, Kd.C_below h.C2 hb⟩
theorem MS.alloc {W : World} {b c1 c2 : Nat} {n const : Int} {A1 A2 : Option Addr} {rows : List S96} {goal : List S109} (h : MS W b n A1 c1 rows A2 c2 goal const) (o : Obj) : MS (W.alloc o) b n A1 c1 rows A2 c2 goal const := h.below (below_alloc (Below.refl _ _) o)
theorem MS.cells {W : World} {b c1 c2 : Nat} {n const : Int} {A1 A2 : Option Addr} {rows : List S96} {goal : List S109} (h : MS W b n A1 c1 rows A2 c2 goal const) : W.cell? ⟨b, 0, none⟩ = some (.int .i64 n) ∧ W.cell? ⟨b, 1, none⟩ = some (.slice A1 rows.length c1) ∧ W.cell? ⟨b, 2, none⟩ = some (.slice A2 goal.length c2) ∧ W.cell? ⟨b, 3, none⟩ = some (.int .i64 const) :=
  ⟨blk_cell h.M 0, blk_cell h.M 1, blk_cell h.M 2, blk_cell h.M 3⟩
theorem MS.new (W : World) (n : Int) (A1 : Option Addr) (c1 : Nat) (rows : List S96) (A2 : Option Addr) (c2 : Nat) (goal : List S109) (const : Int) (h1 : Kd.C k96 W A1 rows.length rows) (h2 : Kd.C k109 W A2 goal.length goal) :
    MS (W.alloc (.cells #[.int .i64 n, .slice A1 rows.length c1, .slice A2 goal.length c2, .int .i64 const] 29 (0, 0))) W.heap.size n A1 c1 rows A2 c2 goal const := ⟨heap_alloc_last W _, Kd.C_alloc h1 _, Kd.C_alloc h2 _⟩
/-- What the law holds while it runs: the deck, the model in its variable; all of it lies below block N. -/
structure LS (w W : World) (g : Nat) (l : List Int) (p : Int) (b8 N : Nat) (n : Int) (A1 : Option Addr) (c1 : Nat) (rows : List S96) (A2 : Option Addr) (c2 : Nat) (goal : List S109) (const : Int) : Prop where
  I : IsS111 w W g l p
  B : Below w.heap.size w W
  M : W.heap[b8]? = some (.cells #[.int .i64 n, .slice A1 rows.length c1, .slice A2 goal.length c2, .int .i64 const] 29 (0, 0))
  ne : b8 ≠ g
  R1 : Kd.F k96 W (fun k_ => k_ ≠ g ∧ k_ < N) A1 rows.length rows
  R2 : Kd.F k109 W (fun k_ => k_ ≠ g ∧ k_ < N) A2 goal.length goal
  gN : g < N
  bN : b8 < N
  wN : w.heap.size ≤ N
  NW : N ≤ W.heap.size
section
variable {w W W' : World} {g b8 N : Nat} {l : List Int} {p p' n const : Int} {A1 A2 : Option Addr} {c1 c2 : Nat} {rows : List S96} {goal : List S109}
theorem LS.below (h : LS w W g l p b8 N n A1 c1 rows A2 c2 goal const) (hb : Below W.heap.size W W') : LS w W' g l p b8 N n A1 c1 rows A2 c2 goal const :=
  ⟨h.I.below hb, below_step h.B hb, blk_below h.M hb, h.ne, Kd.F_below h.R1 hb, Kd.F_below h.R2 hb, h.gN, h.bN, h.wN, Nat.le_trans h.NW hb.size⟩
theorem LS.alloc (h : LS w W g l p b8 N n A1 c1 rows A2 c2 goal const) (o : Obj) : LS w (W.alloc o) g l p b8 N n A1 c1 rows A2 c2 goal const := h.below (below_alloc (Below.refl _ _) o)
theorem LS.call (h : LS w W g l p b8 N n A1 c1 rows A2 c2 goal const) (hi : IsS111 w W' g l p') (hb : Below w.heap.size w W') (hk : KeepBut W W' g none) : LS w W' g l p' b8 N n A1 c1 rows A2 c2 goal const :=
  ⟨hi, hb, KeepBut.blk hk h.M h.ne (by simp), h.ne, Kd.F_keep h.R1 hk (fun _ hk => hk.1), Kd.F_keep h.R2 hk (fun _ hk => hk.1), h.gN, h.bN, h.wN, Nat.le_trans h.NW hk.1⟩
theorem LS.grown (h : LS w W g l p b8 N n A1 c1 rows A2 c2 goal const) {row : Option Nat} (hg : W.grownBy W' row) (hr : ∀ k, row = some k → N ≤ k) : LS w W' g l p b8 N n A1 c1 rows A2 c2 goal const := by
  have hlt : ∀ k, k < N → some k ≠ row := fun k hk e => by have := hr k e.symm; omega
  exact ⟨h.I.grown hg (hlt g h.gN), pw_below_grown h.B row (Nat.le_trans h.wN h.NW) hg (fun k e => Nat.le_trans h.wN (hr k e)), (hg.block b8 (blk_lt h.M) (hlt b8 h.bN)).trans h.M, h.ne, Kd.F_grown h.R1 hg (fun k hk => hlt k hk.2), Kd.F_grown h.R2 hg (fun k hk => hlt k hk.2), h.gN, h.bN, h.wN, Nat.le_trans h.NW hg.size⟩
theorem LS.C1 (h : LS w W g l p b8 N n A1 c1 rows A2 c2 goal const) : Kd.C k96 W A1 rows.length rows := Kd.F_now h.R1
theorem LS.C2 (h : LS w W g l p b8 N n A1 c1 rows A2 c2 goal const) : Kd.C k109 W A2 goal.length goal := Kd.F_now h.R2
theorem LS.cells (h : LS w W g l p b8 N n A1 c1 rows A2 c2 goal const) : W.cell? ⟨b8, 0, none⟩ = some (.int .i64 n) ∧ W.cell? ⟨b8, 1, none⟩ = some (.slice A1 rows.length c1) ∧ W.cell? ⟨b8, 2, none⟩ = some (.slice A2 goal.length c2) ∧ W.cell? ⟨b8, 3, none⟩ = some (.int .i64 const) :=
  ⟨blk_cell h.M 0, blk_cell h.M 1, blk_cell h.M 2, blk_cell h.M 3⟩
end
set_option maxHeartbeats 8000000 in
set_option maxRecDepth 100000 in
theorem timeboundlaw33_IntegerSolves.any (P : timeboundlaw33_IntegerSolves.Pure) (A0 : Option Addr) (c0 : Nat) (l0 : List Int) (A1 : Option Addr) (c1 : Nat) (l1 : List Int) (A2 : Option Addr) (c2 : Nat) (l2 : List Int) (w : World)
    (hr0 : Kd.C (Kd.int .i64) w A0 l0.length l0) (hc0 : l0.length ≤ c0) (hr1 : Kd.C (Kd.int .i64) w A1 l1.length l1) (hc1 : l1.length ≤ c1) (hr2 : Kd.C (Kd.int .i64) w A2 l2.length l2) (hc2 : l2.length ≤ c2) (y0 : l0.length * 8 ≤ 140737488351232) (y1 : l1.length * 8 ≤ 140737488351232) (y2 : l2.length * 8 ≤ 140737488351232) :
    Calls Try.prog 3 #[.slice A0 l0.length c0, .slice A1 l1.length c1, .slice A2 l2.length c2] w fun e w' => e = .returned (.bool true) ∧ Below w.heap.size w w' := by
  obtain ⟨⟨ka, haw⟩, P⟩ := P
  have HAW := Aside0.mk (fun W => timeboundlaw33_awake.calls ka true W haw)
  have HR0 := Aside0.mk hr0
  have HR1 := Aside0.mk hr1
  have HR2 := Aside0.mk hr2
  clear hr0 hr1 hr2 haw
  by_cases g1 : l0.length ≤ 20
  · by_cases g2 : l2.length ≤ 20
    · have PP := P l0 l1 l2 g1 g2 y1
      clear P
      obtain ⟨k, v1, q1, n, rows, goal, const, q2, box, q3, y, e1, v10, v11, e2, n0, n1, e3, s1, s2, hy, hv1, hv2⟩ := PP
      have E1 := Aside0.mk e1
      have E2 := Aside0.mk e2
      have E3 := Aside0.mk e3
      have S1 := Aside0.mk s1
      have S2 := Aside0.mk s2
      have HY := Aside0.mk hy
      have V1 := Aside0.mk hv1
      have V2 := Aside0.mk hv2
      have hu29 := Try.underlying29
      have d1 : decide (20 < (l0.length : Int)) = false := decide_eq_false (by omega)
      have d2 : decide (20 < (l2.length : Int)) = false := decide_eq_false (by omega)
      have d3 : decide (20 < l0.length) = false := decide_eq_false (by omega)
      have d4 : decide (20 < l2.length) = false := decide_eq_false (by omega)
      clear e1 e2 e3 s1 s2 hy hv1 hv2
      go_enter Try.func3, Try.ntmps3
      go_wp2_with fail
      refine (timeboundmake_New.calls A1 c1 l1 l1 0 w w (Below.refl _ _) HR1.out hc1 rfl).mono ?_
      rintro e w1 ⟨g, rfl, hi, hb, hb2⟩
      have HI := Aside0.mk hi
      have HB := Aside0.mk hb
      clear hi hb hb2
      go_wp2_with fail
      refine (timeboundmake_Deck_Next.calls g l1 0 6 v1 q1 w w1 HI.out HB.out E1.out).mono ?_
      rintro e w2 ⟨rfl, hi, hb, hk⟩
      clear HI HB hk
      have HI := Aside0.mk hi
      have HB := Aside0.mk hb
      clear hi hb w1
      go_wp2_with fail
      refine (timeboundmake2_Model.calls k g l1 q1 (4 + v1 / 5) n rows goal const q2 w w2 HI.out HB.out E2.out).mono ?_
      rintro e w3 ⟨u1, u2, rfl, hS1, hR2, hi, hb, hk⟩
      obtain ⟨A1', c1', rfl, hle1, hD1⟩ := Kd.S_reads hS1
      obtain ⟨A2', c2', rfl, hle2, hD2⟩ := Kd.R_reads hR2
      have HF1 := Aside0.mk (Kd.F_mono (ok' := fun k_ => k_ ≠ g) (Kd.S_F (hi.apartS hS1 (by decide))) (fun k hk => hk.2))
      have HF2 := Aside0.mk (Kd.F_mono (ok' := fun k_ => k_ ≠ g) (Kd.R_F (hi.apart hR2 (by decide))) (fun k hk => hk.2))
      have H3 := Aside0.mk (LS.mk (N := w3.heap.size + 1) (hi.alloc (.cells #[.int .i64 n, .slice A1' rows.length c1', .slice A2' goal.length c2', .int .i64 const] 29 (0, 0))) (below_alloc hb _) (heap_alloc_last w3 _) (Nat.ne_of_gt hi.lt) (Kd.F_mono (Kd.F_alloc (Kd.F_bound HF1.out) _) (fun k hk => ⟨hk.1, by have := hk.2; omega⟩)) (Kd.F_mono (Kd.F_alloc (Kd.F_bound HF2.out) _) (fun k hk => ⟨hk.1, by have := hk.2; omega⟩)) (by have := hi.lt; omega) (by omega) (by have := hb.size; omega) (by simp))
      clear hS1 hR2 hD1 hD2 hi hb hk HF1 HF2 HI HB w2 E1 E2
      go_wp2_with fail
      refine (timeboundmake2_Box.calls k g l1 q2 n A1' c1' rows A2' c2' goal const box q3 w _ H3.out.I H3.out.B (fun W_ hk => Kd.F_now (Kd.F_keep H3.out.R1 hk (fun _ h => h.1))) hle1 (fun W_ hk => Kd.F_now (Kd.F_keep H3.out.R2 hk (fun _ h => h.1))) hle2 E3.out).mono ?_
      rintro e w4 ⟨u3, rfl, hR3, hi, hb, hk⟩
      obtain ⟨Ab, cb, rfl, hleb, hCb⟩ := Kd.R_reads hR3
      have H4 := Aside0.mk ((H3.out.call hi hb hk).alloc (.cells #[.slice Ab box.length cb, .slice A0 l0.length c0] 22 (0, 0)))
      have HCb := Aside0.mk (Kd.C_alloc hCb (.cells #[.slice Ab box.length cb, .slice A0 l0.length c0] 22 (0, 0)))
      have HL := Aside0.mk (heap_alloc_last w4 (.cells #[.slice Ab box.length cb, .slice A0 l0.length c0] 22 (0, 0)))
      clear hR3 hi hb hk hCb H3 E3
      generalize w3.heap.size + 1 = N at *
      generalize w3.heap.size = b8 at *
      clear w3
      go_wp2_with fail
      generalize w4.alloc (.cells #[.slice Ab box.length cb, .slice A0 l0.length c0] 22 (0, 0)) = w5 at *
      generalize w4.heap.size = b49 at *
      clear w4
      go_loopw [51] (fun v51 wr => ∃ j : Nat, j ≤ 2 ∧ v51 = .int .i64 j ∧ Aside0 (LS w wr g l1 q3 b8 N n A1' c1' rows A2' c2' goal const) ∧ Aside0 (Below w5.heap.size w5 wr)) (fun v51 _ => 2 - (intOf v51).toNat)
      case atStart => exact ⟨0, by omega, rfl, H4, ⟨Below.refl _ _⟩⟩
      case round =>
        clear H4
        obtain ⟨j, hj, rfl, HS, HW⟩ := hrel
        by_cases hlt : j < 2
        · obtain ⟨Am, cm, most, hcell, hC, hle, hs⟩ : ∃ Am cm most, wr.cell? ⟨b49, j, none⟩ = some (.slice Am most.length cm) ∧ Kd.C (Kd.int .i64) wr Am most.length most ∧ most.length ≤ cm ∧ Same33 k n rows goal const most := by
            rcases j with _ | _ | j
            · exact ⟨Ab, cb, box, blk_cell (blk_below HL.out HW.out) 0, Kd.C_below HCb.out HW.out, hleb, S1.out⟩
            · exact ⟨A0, c0, l0, blk_cell (blk_below HL.out HW.out) 1, Kd.C_below HR0.out HS.out.B, hc0, S2.out⟩
            · omega
          obtain ⟨b1, b2, b3, b4, b5, sv, sp, sg, eb1, eb2, es1, es2, et1, et2⟩ := hs
          have EB1 := Aside0.mk eb1
          have EB2 := Aside0.mk eb2
          have ES1 := Aside0.mk es1
          have ES2 := Aside0.mk es2
          have ET1 := Aside0.mk et1
          have ET2 := Aside0.mk et2
          have HC := Aside0.mk hC
          obtain ⟨m0, m1, m2, m3⟩ := HS.out.cells
          clear eb1 eb2 es1 es2 et1 et2 hC
          go_wp2_with fail
          refine (integer_Boxed.calls k n A1' c1' rows A2' c2' goal const Am cm most b1 b2 b3 b4 b5 wr HS.out.C1 hle1 HS.out.C2 hle2 HC.out hle EB1.out).mono ?_
          rintro e wa ⟨ua, ub, rfl, hSa, hRb, hb⟩
          obtain ⟨Ba, ca, rfl, hla, hCa⟩ := Kd.S_reads hSa
          obtain ⟨Bb, cbb, rfl, hlb, hCb2⟩ := Kd.R_reads hRb
          have K1 := Aside0.mk (MS.new wa b1 Ba ca b2 Bb cbb b3 b4 hCa hCb2)
          have HSa := Aside0.mk ((HS.out.below hb).alloc (.cells #[.int .i64 b1, .slice Ba b2.length ca, .slice Bb b3.length cbb, .int .i64 b4] 29 (0, 0)))
          have HWa := Aside0.mk (below_alloc (below_step HW.out hb) (.cells #[.int .i64 b1, .slice Ba b2.length ca, .slice Bb b3.length cbb, .int .i64 b4] 29 (0, 0)))
          have HCa := Aside0.mk (Kd.C_alloc (Kd.C_below HC.out hb) (.cells #[.int .i64 b1, .slice Ba b2.length ca, .slice Bb b3.length cbb, .int .i64 b4] 29 (0, 0)))
          clear m0 m1 m2 m3 hSa hRb hb hCa hCb2 EB1 HC HS HW hcell
          obtain ⟨m0, m1, m2, m3⟩ := HSa.out.cells
          go_wp2_with fail
          refine (timeboundref33_Boxed.calls k n A1' c1' rows A2' c2' goal const Am cm most b1 b2 b3 b4 b5 _ HSa.out.C1 hle1 HSa.out.C2 hle2 HCa.out hle EB2.out).mono ?_
          rintro e wb ⟨va, vb, rfl, hSa, hRb, hb⟩
          obtain ⟨Da, da, rfl, hla2, hCa⟩ := Kd.S_reads hSa
          obtain ⟨Db, db, rfl, hlb2, hCb2⟩ := Kd.R_reads hRb
          have K2 := Aside0.mk (MS.new wb b1 Da da b2 Db db b3 b4 hCa hCb2)
          have K1b := Aside0.mk ((K1.out.below hb).alloc (.cells #[.int .i64 b1, .slice Da b2.length da, .slice Db b3.length db, .int .i64 b4] 29 (0, 0)))
          have HSb := Aside0.mk ((HSa.out.below hb).alloc (.cells #[.int .i64 b1, .slice Da b2.length da, .slice Db b3.length db, .int .i64 b4] 29 (0, 0)))
          have HWb := Aside0.mk (below_alloc (below_step HWa.out hb) (.cells #[.int .i64 b1, .slice Da b2.length da, .slice Db b3.length db, .int .i64 b4] 29 (0, 0)))
          have HCc := Aside0.mk (Kd.C_alloc (Kd.C_below HCa.out hb) (.cells #[.int .i64 b1, .slice Da b2.length da, .slice Db b3.length db, .int .i64 b4] 29 (0, 0)))
          clear m0 m1 m2 m3 hSa hRb hb hCa hCb2 EB2 HSa HWa HCa K1
          obtain ⟨m0, m1, m2, m3⟩ := HSb.out.cells
          go_wp2_with fail
          refine (integer_Solve.calls k n A1' c1' rows A2' c2' goal const Am cm most sv sp sg _ HSb.out.C1 hle1 HSb.out.C2 hle2 HCc.out hle ES1.out).mono ?_
          rintro e wc ⟨u5, rfl, hR5, hb⟩
          obtain ⟨P1, p1, rfl, hlp1, hCp1⟩ := Kd.R_reads hR5
          have HP1 := Aside0.mk hCp1
          have K1c := Aside0.mk (K1b.out.below hb)
          have K2c := Aside0.mk (K2.out.below hb)
          have HSc := Aside0.mk (HSb.out.below hb)
          have HWc := Aside0.mk (below_step HWb.out hb)
          have HCd := Aside0.mk (Kd.C_below HCc.out hb)
          clear m0 m1 m2 m3 hR5 hb hCp1 ES1 HSb HWb HCc K1b K2
          obtain ⟨m0, m1, m2, m3⟩ := HSc.out.cells
          generalize wa.heap.size = ba at *
          generalize wb.heap.size = bb at *
          go_wp2_with fail
          refine (timeboundref33_Solve.calls k n A1' c1' rows A2' c2' goal const Am cm most sv sp sg _ HSc.out.C1 hle1 HSc.out.C2 hle2 HCd.out hle ES2.out).mono ?_
          rintro e wd ⟨u6, rfl, hR6, hb⟩
          obtain ⟨P2, p2, rfl, hlp2, hCp2⟩ := Kd.R_reads hR6
          have HP2 := Aside0.mk hCp2
          have HP1d := Aside0.mk (Kd.C_below HP1.out hb)
          have K1d := Aside0.mk (K1c.out.below hb)
          have K2d := Aside0.mk (K2c.out.below hb)
          have HSd := Aside0.mk (HSc.out.below hb)
          have HWd := Aside0.mk (below_step HWc.out hb)
          clear m0 m1 m2 m3 hR6 hb hCp2 ES2 HSc HWc HCd K1c K2c HP1 wc
          obtain ⟨m0, m1, m2, m3⟩ := K1d.out.cells
          obtain ⟨x0, x1, x2, x3⟩ := K2d.out.cells
          go_wp2_with fail
          refine (timeboundref33_Same.calls k b1 Ba ca b2 Bb cbb b3 b4 b1 Da da b2 Db db b3 b4 true _ K1d.out.C1 hla K1d.out.C2 hlb K2d.out.C1 hla2 K2d.out.C2 hlb2 ET1.out).mono ?_
          rintro e we ⟨rfl, hb⟩
          have HPe1 := Aside0.mk (Kd.C_below HP1d.out hb)
          have HPe2 := Aside0.mk (Kd.C_below HP2.out hb)
          have HSe := Aside0.mk (HSd.out.below hb)
          have HWe := Aside0.mk (below_step HWd.out hb)
          clear m0 m1 m2 m3 x0 x1 x2 x3 hb HSd HWd K1d K2d HP1d HP2 ET1
          go_wp2_with fail
          refine (timeboundref01_SameInts.calls k P1 p1 sp P2 p2 sp true _ HPe1.out hlp1 HPe2.out hlp2 ET2.out).mono ?_
          rintro e wf ⟨rfl, hd⟩
          have HSf := Aside0.mk (HSe.out.below hd.below)
          have HWf := Aside0.mk (below_step HWe.out hd.below)
          clear hd HSe HWe HPe1 HPe2 ET2
          go_wp2_with fail
          go_roundw
          case rel => exact ⟨j + 1, by omega, by go_num, HSf, HWf⟩
          case measure => simp [intOf]; omega
        · have d6 : decide ((j : Int) < 2) = false := decide_eq_false (by omega)
          have d7 : decide (j < 2) = false := decide_eq_false (by omega)
          obtain ⟨m0, m1, m2, m3⟩ := HS.out.cells
          go_wp2_with fail
          clear m0 m1 m2 m3 HCb HL S1 S2
          go_loopw [21, 109] (fun v21 v109 wr => ∃ (i : Nat) (y' : List Int) (q : Int) (u : Value), (i : Int) ≤ n ∧ v21 = u ∧ v109 = .int .i64 i ∧ Aside0 (LS w wr g l1 q b8 N n A1' c1' rows A2' c2' goal const) ∧ Aside0 (Kd.R (Kd.int .i64) 3 wr N (fun _ => True) u y') ∧ Aside0 (YOk l1 (n.toNat - i) y' q y) ∧ Aside0 (y'.length = i)) (fun _ v109 _ => n.toNat - (intOf v109).toNat)
          case atStart => exact ⟨0, [], q3, _, by omega, rfl, rfl, HS, ⟨Kd.R_nil _ _ _ _ _⟩, HY, ⟨rfl⟩⟩
          case round =>
            clear HS HW HY
            obtain ⟨i, y', q, _, hin, rfl, rfl, HS, HU, HYk, HLn⟩ := hrel
            by_cases hlt : (i : Int) < n
            · obtain ⟨m, hm⟩ : ∃ m, n.toNat - i = m + 1 := ⟨n.toNat - i - 1, by omega⟩
              have hy := HYk.out
              rw [hm] at hy
              obtain ⟨a, qa, b, qb, ea, a0, a1, eb, b0, b1, hy⟩ := hy
              have EA := Aside0.mk ea
              have EB := Aside0.mk eb
              have HY2 := Aside0.mk (show YOk l1 (n.toNat - (i + 1)) (y' ++ [a - b / 7]) qb y from by rw [show n.toNat - (i + 1) = m by omega]; exact hy)
              have HIM := Aside0.mk hin
              clear hm hy ea eb HYk
              have d5 : decide ((i : Int) < n) = true := decide_eq_true hlt
              go_wp2_with fail
              refine (timeboundmake_Deck_Next.calls g l1 q 5 a qa w wr HS.out.I HS.out.B EA.out).mono ?_
              rintro e w6 ⟨rfl, hi, hb, hk⟩
              have HS6 := Aside0.mk (HS.out.call hi hb hk)
              have HU6 := Aside0.mk (Kd.R_mono (Kd.R_keep (HS.out.I.apart HU.out (by decide)) hk (fun _ h => h.2)) (fun _ _ => trivial) : Kd.R (Kd.int .i64) 3 w6 N (fun _ => True) u21 y')
              clear hi hb hk HS HU EA
              go_wp2_with fail
              refine (timeboundmake_Deck_Next.calls g l1 qa 8 b qb w w6 HS6.out.I HS6.out.B EB.out).mono ?_
              rintro e w7 ⟨rfl, hi, hb, hk⟩
              have HS7 := Aside0.mk (HS6.out.call hi hb hk)
              have HU7 := Aside0.mk (Kd.R_mono (Kd.R_keep (HS6.out.I.apart HU6.out (by decide)) hk (fun _ h => h.2)) (fun _ _ => trivial) : Kd.R (Kd.int .i64) 3 w7 N (fun _ => True) u21 y')
              clear hi hb hk HS6 HU6 EB
              go_wp2_with ((with_reducible refine gate_builtin (b := .append) (xs := #[.tmp 111, .tmp 118]) rfl ?_); at_builtin; refine Kd.R_append (Kd.int .i64) (w0 := w7) N rfl (.tmp 111) (.tmp 118) 22 3 (.int .i64 0) 8 rfl Try.underlying22 info3 rfl (by decide) (by omega) u21 y' (a - b / 7) [.int .i64 (a - b / 7)] (fun _ => True) (fun _ => False) rfl rfl rfl (fun _ hk => hk.elim) (fun _ _ => trivial) HU7.out ((Below.refl w7.heap.size w7).mono HS7.out.NW) HS7.out.NW (by have := HLn.out; omega) ?_; intro v8 w8 ho hb hg hat; have HO8 := Aside0.mk ho; have HS8 := Aside0.mk (HS7.out.grown hg (fun k e => Kd.R_base HU7.out k e)); clear ho hb hg hat HS7)
              go_roundw
              case rel => exact ⟨i + 1, _, qb, _, by omega, rfl, by go_num, HS8, HO8, HY2, ⟨by simp [HLn.out]⟩⟩
              case measure => simp [intOf]; omega
            · have hy := HYk.out
              rw [show n.toNat - i = 0 by omega] at hy
              obtain rfl : y' = y := hy
              obtain ⟨Ay, cy, hu21, hly, hCy⟩ := Kd.R_reads HU.out
              obtain rfl := hu21
              have HCy := Aside0.mk (Kd.C_alloc hCy (.cells #[.slice A2 l2.length c2, .slice Ay y'.length cy] 22 (0, 0)))
              have H9 := Aside0.mk (HS.out.alloc (.cells #[.slice A2 l2.length c2, .slice Ay y'.length cy] 22 (0, 0)))
              have HL := Aside0.mk (heap_alloc_last wr (.cells #[.slice A2 l2.length c2, .slice Ay y'.length cy] 22 (0, 0)))
              have d5 : decide ((i : Int) < n) = false := decide_eq_false hlt
              clear HS HU HYk hCy HLn
              go_wp2_with fail
              clear d5 hlt
              generalize wr.alloc (.cells #[.slice A2 l2.length c2, .slice Ay y'.length cy] 22 (0, 0)) = w9 at *
              generalize wr.heap.size = b123 at *
              clear wr
              go_loopw [125] (fun v125 wr => ∃ j : Nat, j ≤ 2 ∧ v125 = .int .i64 j ∧ Aside0 (LS w wr g l1 q b8 N n A1' c1' rows A2' c2' goal const) ∧ Aside0 (Below w9.heap.size w9 wr)) (fun v125 _ => 2 - (intOf v125).toNat)
              case atStart => exact ⟨0, by omega, rfl, H9, ⟨Below.refl _ _⟩⟩
              case round =>
                clear H9
                obtain ⟨j, hj, rfl, HS, HW⟩ := hrel
                by_cases hlt : j < 2
                · obtain ⟨Am, cm, z, hcell, hC, hle, hs⟩ : ∃ Am cm z, wr.cell? ⟨b123, j, none⟩ = some (.slice Am z.length cm) ∧ Kd.C (Kd.int .i64) wr Am z.length z ∧ z.length ≤ cm ∧ Vals33 k n rows goal const z := by
                    rcases j with _ | _ | j
                    · exact ⟨A2, c2, l2, blk_cell (blk_below HL.out HW.out) 0, Kd.C_below HR2.out HS.out.B, hc2, V1.out⟩
                    · exact ⟨Ay, cy, y', blk_cell (blk_below HL.out HW.out) 1, Kd.C_below HCy.out HW.out, hly, V2.out⟩
                    · omega
                  obtain ⟨v, ok, ev1, ev2⟩ := hs
                  have EV1 := Aside0.mk ev1
                  have EV2 := Aside0.mk ev2
                  have HC := Aside0.mk hC
                  obtain ⟨m0, m1, m2, m3⟩ := HS.out.cells
                  clear ev1 ev2 hC
                  go_wp2_with fail
                  refine (integer_Value.calls k n A1' c1' rows A2' c2' goal const Am cm z v ok wr HS.out.C1 hle1 HS.out.C2 hle2 HC.out hle EV1.out).mono ?_
                  rintro e wa ⟨rfl, hb⟩
                  have HSa := Aside0.mk (HS.out.below hb)
                  have HWa := Aside0.mk (below_step HW.out hb)
                  have HCa := Aside0.mk (Kd.C_below HC.out hb)
                  clear m0 m1 m2 m3 hb EV1 HC HS HW hcell
                  obtain ⟨m0, m1, m2, m3⟩ := HSa.out.cells
                  go_wp2_with fail
                  refine (timeboundref33_Value.calls k n A1' c1' rows A2' c2' goal const Am cm z v ok _ HSa.out.C1 hle1 HSa.out.C2 hle2 HCa.out hle EV2.out).mono ?_
                  rintro e wb ⟨rfl, hb⟩
                  have HSb := Aside0.mk (HSa.out.below hb)
                  have HWb := Aside0.mk (below_step HWa.out hb)
                  clear m0 m1 m2 m3 hb EV2 HCa HSa HWa
                  cases ok with
                  | true =>
                    go_wp2_with fail
                    go_roundw
                    case rel => exact ⟨j + 1, by omega, by go_num, HSb, HWb⟩
                    case measure => simp [intOf]; omega
                  | false =>
                    go_wp2_with fail
                    go_roundw
                    case rel => exact ⟨j + 1, by omega, by go_num, HSb, HWb⟩
                    case measure => simp [intOf]; omega
                · obtain rfl : j = 2 := by omega
                  go_wp2_with fail
                  refine (HAW.out _).mono ?_
                  rintro e wz ⟨rfl, hb⟩
                  have HZ := Aside0.mk (below_step HS.out.B hb)
                  clear hb
                  go_wp2_with fail
                  go_ret
                  exact ⟨rfl, HZ.out⟩
    · clear P
      have d1 : decide (20 < (l0.length : Int)) = false := decide_eq_false (by omega)
      have d2 : decide (20 < (l2.length : Int)) = true := decide_eq_true (by omega)
      have d3 : decide (20 < l0.length) = false := decide_eq_false (by omega)
      have d4 : decide (20 < l2.length) = true := decide_eq_true (by omega)
      go_enter Try.func3, Try.ntmps3
      go_wp2_with fail
      refine (HAW.out _).mono ?_
      rintro e wz ⟨rfl, hb⟩
      have HZ := Aside0.mk hb
      clear hb
      go_wp2_with fail
      go_ret
      exact ⟨rfl, HZ.out⟩
  · clear P
    have d1 : decide (20 < (l0.length : Int)) = true := decide_eq_true (by omega)
    have d3 : decide (20 < l0.length) = true := decide_eq_true (by omega)
    go_enter Try.func3, Try.ntmps3
    go_wp2_with fail
    refine (HAW.out _).mono ?_
    rintro e wz ⟨rfl, hb⟩
    have HZ := Aside0.mk hb
    clear hb
    go_wp2_with fail
    go_ret
    exact ⟨rfl, HZ.out⟩
theorem timeboundlaw33_IntegerSolves.walk (P : timeboundlaw33_IntegerSolves.Pure) (a0 : Option Addr) (len0 cap0 : Nat) (z0 : List Int) (a1 : Option Addr) (len1 cap1 : Nat) (z1 : List Int) (a2 : Option Addr) (len2 cap2 : Nat) (z2 : List Int) (w : World) (w0 : (a0 = none ∧ len0 = 0 ∧ cap0 = 0 ∧ z0 = []) ∨ ∃ x, a0 = some x ∧ len0 ≤ cap0 ∧ cap0 ≤ maxLen ∧ z0.length = cap0 ∧ (∀ i, i < z0.length → w.cell? (x.add i) = some (.int .i64 (z0.getD i 0))) ∧ ∀ n ∈ z0, (Lit.int .i64 n).wf = true) (y0 : len0 * 8 ≤ 140737488351232) (w1 : (a1 = none ∧ len1 = 0 ∧ cap1 = 0 ∧ z1 = []) ∨ ∃ x, a1 = some x ∧ len1 ≤ cap1 ∧ cap1 ≤ maxLen ∧ z1.length = cap1 ∧ (∀ i, i < z1.length → w.cell? (x.add i) = some (.int .i64 (z1.getD i 0))) ∧ ∀ n ∈ z1, (Lit.int .i64 n).wf = true) (y1 : len1 * 8 ≤ 140737488351232) (w2 : (a2 = none ∧ len2 = 0 ∧ cap2 = 0 ∧ z2 = []) ∨ ∃ x, a2 = some x ∧ len2 ≤ cap2 ∧ cap2 ≤ maxLen ∧ z2.length = cap2 ∧ (∀ i, i < z2.length → w.cell? (x.add i) = some (.int .i64 (z2.getD i 0))) ∧ ∀ n ∈ z2, (Lit.int .i64 n).wf = true) (y2 : len2 * 8 ≤ 140737488351232) :
    Calls Try.prog 3 #[.slice a0 len0 cap0, .slice a1 len1 cap1, .slice a2 len2 cap2] w fun e w' => e = .returned (.bool true) ∧ Below w.heap.size w w' := by
  obtain ⟨l0, rfl, hr0, hm0, hw0, hc0⟩ := ReadsInt.ofRowC w0
  obtain ⟨l1, rfl, hr1, hm1, hw1, hc1⟩ := ReadsInt.ofRowC w1
  obtain ⟨l2, rfl, hr2, hm2, hw2, hc2⟩ := ReadsInt.ofRowC w2
  exact timeboundlaw33_IntegerSolves.any P _ _ l0 _ _ l1 _ _ l2 w (Kd.C_of_reads (d := (0 : Int)) (h1 := fun _ => rfl) hr0) hc0 (Kd.C_of_reads (d := (0 : Int)) (h1 := fun _ => rfl) hr1) hc1 (Kd.C_of_reads (d := (0 : Int)) (h1 := fun _ => rfl) hr2) hc2 y0 y1 y2

end Go.Proofs.Ytdgegoefehmfmaa.QIntegerSolves
