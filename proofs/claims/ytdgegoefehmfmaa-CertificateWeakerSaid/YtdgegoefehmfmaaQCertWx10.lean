-- Written for this claim by this session's own program (wip/pp).
import Derived.Test.YtdgegoefehmfmaaQCertWx0
import Derived.Test.YtdgegoefehmfmaaQCertWx9
namespace Go.Proofs.Ytdgegoefehmfmaa.QCertW
open Go.RowKit Go.Proofs.YtdgegoefehmfmaaW.PrintWords Go.Proofs.YtdgegoefehmfmaaW.PrintLast Go.Proofs.YtdgegoefehmfmaaW.PrintMore
attribute [local go_sem] max2_int min2_int max_two min_two max_three min_three max_four min_four   -- for this text's walks alone
set_option linter.unusedVariables false
set_option linter.unusedSimpArgs false

/-! ### timeboundref34_Leaf: function 55 -/
mutual
def timeboundref34_Leaf.l0 : Nat → List (S96) → List Int → Int → List (S109) → Int → Int → Int → List (S96) → List (S109) → Int → Int → Int → List (S109) → Int → List (S109) → Int → Option (Int × Bool × Bool)
  | 0, _, _, _, _, _, _, _, _, _, _, _, _, _, _, _, _ => none
  | k + 1, x1, x9, x10, x23, x24, x25, x299000, x299001, x299002, x299003, x300000, x300001, x300002, x300003, x300004, x300005 => if x25 < x24 then (if 0 ≤ x25 then (if x25 < (x23.length : Int) then (if ((rd_T109 x23 x25).f0) < 0 then (timeboundref34_Leaf.j1 k x1 x9 x10 x23 x24 x25 true x299000 x299001 x299002 x299003 x300000 x300001 x300002 x300003 x300004 x300005 ((rd_T109 x23 x25).f0) ((rd_T109 x23 x25).f1)) else (timeboundref34_Leaf.j1 k x1 x9 x10 x23 x24 x25 (decide (((rd_T109 x23 x25).f0) ≥ (wrap64 ((x299001.length : Int) + (x1.length : Int))))) x299000 x299001 x299002 x299003 x300000 x300001 x300002 x300003 x300004 x300005 ((rd_T109 x23 x25).f0) ((rd_T109 x23 x25).f1))) else (none)) else (none)) else (timeboundref34_Leaf.l2 k x10 x9 (x9.length : Int) 0 x299000 x299001 x299002 x299003 x300000 x300001 x300002 x300003 x300004 x300005)
def timeboundref34_Leaf.j1 : Nat → List (S96) → List Int → Int → List (S109) → Int → Int → Bool → Int → List (S96) → List (S109) → Int → Int → Int → List (S109) → Int → List (S109) → Int → Int → Int → Option (Int × Bool × Bool)
  | 0, _, _, _, _, _, _, _, _, _, _, _, _, _, _, _, _, _, _, _ => none
  | k + 1, x1, x9, x10, x23, x24, x25, x38, x299000, x299001, x299002, x299003, x300000, x300001, x300002, x300003, x300004, x300005, x305000, x305001 => if x38 = true then (none) else (if x305000 < (x299001.length : Int) then (if 0 ≤ x305000 then (timeboundref34_Leaf.l1 k x1 x9 x10 x23 x24 x25 ((rd_T96 x299001 x305000).f0) (((rd_T96 x299001 x305000).f0).length : Int) 0 x299000 x299001 x299002 x299003 x300000 x300001 x300002 x300003 x300004 x300005 x305000 x305001 ((rd_T96 x299001 x305000).f0) ((rd_T96 x299001 x305000).f1)) else (none)) else (none))
def timeboundref34_Leaf.l1 : Nat → List (S96) → List Int → Int → List (S109) → Int → Int → List (S109) → Int → Int → Int → List (S96) → List (S109) → Int → Int → Int → List (S109) → Int → List (S109) → Int → Int → Int → List (S109) → Int → Option (Int × Bool × Bool)
  | 0, _, _, _, _, _, _, _, _, _, _, _, _, _, _, _, _, _, _, _, _, _, _, _ => none
  | k + 1, x1, x9, x10, x23, x24, x25, x67, x68, x69, x299000, x299001, x299002, x299003, x300000, x300001, x300002, x300003, x300004, x300005, x305000, x305001, x306000, x306001 => if x69 < x68 then (if 0 ≤ x69 then (if x69 < (x67.length : Int) then (if 0 ≤ ((rd_T109 x67 x69).f0) then (if ((rd_T109 x67 x69).f0) < (x9.length : Int) then (timeboundref34_Leaf.l1 k x1 (x9.set (((rd_T109 x67 x69).f0) : Int).toNat (wrap64 ((rd x9 ((rd_T109 x67 x69).f0)) + (wrap64 (x305001 * ((rd_T109 x67 x69).f1)))))) x10 x23 x24 x25 x67 x68 (wrap64 (x69 + 1)) x299000 x299001 x299002 x299003 x300000 x300001 x300002 x300003 x300004 x300005 x305000 x305001 x306000 x306001) else (none)) else (none)) else (none)) else (none)) else (timeboundref34_Leaf.l0 k x1 x9 (wrap64 (x10 + (wrap64 (x305001 * x306001)))) x23 x24 (wrap64 (x25 + 1)) x299000 x299001 x299002 x299003 x300000 x300001 x300002 x300003 x300004 x300005)
def timeboundref34_Leaf.l2 : Nat → Int → List Int → Int → Int → Int → List (S96) → List (S109) → Int → Int → Int → List (S109) → Int → List (S109) → Int → Option (Int × Bool × Bool)
  | 0, _, _, _, _, _, _, _, _, _, _, _, _, _, _ => none
  | k + 1, x10, x94, x95, x96, x299000, x299001, x299002, x299003, x300000, x300001, x300002, x300003, x300004, x300005 => if x96 < x95 then (if 0 ≤ x96 then (if x96 < (x94.length : Int) then ((timeboundref32_Coef.f k x299002 x96).bind fun t312 => (if (rd x94 x96) < (wrap64 (x300005 * t312)) then (none) else (timeboundref34_Leaf.l2 k x10 x94 x95 (wrap64 (x96 + 1)) x299000 x299001 x299002 x299003 x300000 x300001 x300002 x300003 x300004 x300005))) else (none)) else (none)) else (if x300005 = 0 then (none) else (if (Int.tmod x10 x300005) < 0 then (none) else (some (wrap64 (x299003 + (wrap64 (Int.tdiv x10 x300005))), true, false))))
end
def timeboundref34_Leaf.f (k : Nat) (a0_0 : Int) (l0_1 : List (S96)) (l0_2 : List (S109)) (a0_3 : Int) (l1 : List (S96)) (a2_0 : Int) (a2_1 : Int) (l2_2 : List (S109)) (a2_3 : Int) (l2_4 : List (S109)) (a2_5 : Int) : Option (Int × Bool × Bool) := if 0 ≤ a0_0 then (if (a0_0 : Int).toNat ≤ 35184372088832 then (timeboundref34_Leaf.l0 k l1 (List.replicate (a0_0 : Int).toNat 0) 0 l2_4 (l2_4.length : Int) 0 a0_0 l0_1 l0_2 a0_3 a2_0 a2_1 l2_2 a2_3 l2_4 a2_5) else (none)) else (none)
theorem timeboundref34_Leaf.mono_l : ∀ k, (∀ y0 y1 y2 y3 y4 y5 y6 y7 y8 y9 y10 y11 y12 y13 y14 y15, LeO (timeboundref34_Leaf.l0 k y0 y1 y2 y3 y4 y5 y6 y7 y8 y9 y10 y11 y12 y13 y14 y15) (timeboundref34_Leaf.l0 (k + 1) y0 y1 y2 y3 y4 y5 y6 y7 y8 y9 y10 y11 y12 y13 y14 y15)) ∧ (∀ y0 y1 y2 y3 y4 y5 y6 y7 y8 y9 y10 y11 y12 y13 y14 y15 y16 y17 y18, LeO (timeboundref34_Leaf.j1 k y0 y1 y2 y3 y4 y5 y6 y7 y8 y9 y10 y11 y12 y13 y14 y15 y16 y17 y18) (timeboundref34_Leaf.j1 (k + 1) y0 y1 y2 y3 y4 y5 y6 y7 y8 y9 y10 y11 y12 y13 y14 y15 y16 y17 y18)) ∧ (∀ y0 y1 y2 y3 y4 y5 y6 y7 y8 y9 y10 y11 y12 y13 y14 y15 y16 y17 y18 y19 y20 y21 y22, LeO (timeboundref34_Leaf.l1 k y0 y1 y2 y3 y4 y5 y6 y7 y8 y9 y10 y11 y12 y13 y14 y15 y16 y17 y18 y19 y20 y21 y22) (timeboundref34_Leaf.l1 (k + 1) y0 y1 y2 y3 y4 y5 y6 y7 y8 y9 y10 y11 y12 y13 y14 y15 y16 y17 y18 y19 y20 y21 y22)) ∧ (∀ y0 y1 y2 y3 y4 y5 y6 y7 y8 y9 y10 y11 y12 y13, LeO (timeboundref34_Leaf.l2 k y0 y1 y2 y3 y4 y5 y6 y7 y8 y9 y10 y11 y12 y13) (timeboundref34_Leaf.l2 (k + 1) y0 y1 y2 y3 y4 y5 y6 y7 y8 y9 y10 y11 y12 y13))
  | 0 => ⟨fun _ _ _ _ _ _ _ _ _ _ _ _ _ _ _ _ r h => by simp [timeboundref34_Leaf.l0] at h, fun _ _ _ _ _ _ _ _ _ _ _ _ _ _ _ _ _ _ _ r h => by simp [timeboundref34_Leaf.j1] at h, fun _ _ _ _ _ _ _ _ _ _ _ _ _ _ _ _ _ _ _ _ _ _ _ r h => by simp [timeboundref34_Leaf.l1] at h, fun _ _ _ _ _ _ _ _ _ _ _ _ _ _ r h => by simp [timeboundref34_Leaf.l2] at h⟩
  | k + 1 => by
    obtain ⟨ih0, ih1, ih2, ih3⟩ := timeboundref34_Leaf.mono_l k
    refine ⟨?_, ?_, ?_, ?_⟩
    · intro y0 y1 y2 y3 y4 y5 y6 y7 y8 y9 y10 y11 y12 y13 y14 y15
      unfold timeboundref34_Leaf.l0
      repeat' first
      | (with_reducible exact ih0 _ _ _ _ _ _ _ _ _ _ _ _ _ _ _ _)
      | (with_reducible exact ih1 _ _ _ _ _ _ _ _ _ _ _ _ _ _ _ _ _ _ _)
      | (with_reducible exact ih2 _ _ _ _ _ _ _ _ _ _ _ _ _ _ _ _ _ _ _ _ _ _ _)
      | (with_reducible exact ih3 _ _ _ _ _ _ _ _ _ _ _ _ _ _)
      | (with_reducible exact timeboundref32_Coef.mono _ _ _)
      | (with_reducible exact LeO.refl _)
      | (with_reducible exact LeO.none _)
      | (with_reducible refine LeO.ite ?_ ?_)
      | (with_reducible refine LeO.bind ?_ (fun _ => ?_))
      | exact ih0 _ _ _ _ _ _ _ _ _ _ _ _ _ _ _ _
      | exact ih1 _ _ _ _ _ _ _ _ _ _ _ _ _ _ _ _ _ _ _
      | exact ih2 _ _ _ _ _ _ _ _ _ _ _ _ _ _ _ _ _ _ _ _ _ _ _
      | exact ih3 _ _ _ _ _ _ _ _ _ _ _ _ _ _
      | exact timeboundref32_Coef.mono _ _ _
      | exact LeO.none _
      | refine LeO.ite ?_ ?_
      | refine LeO.bind ?_ (fun _ => ?_)
    · intro y0 y1 y2 y3 y4 y5 y6 y7 y8 y9 y10 y11 y12 y13 y14 y15 y16 y17 y18
      unfold timeboundref34_Leaf.j1
      repeat' first
      | (with_reducible exact ih0 _ _ _ _ _ _ _ _ _ _ _ _ _ _ _ _)
      | (with_reducible exact ih1 _ _ _ _ _ _ _ _ _ _ _ _ _ _ _ _ _ _ _)
      | (with_reducible exact ih2 _ _ _ _ _ _ _ _ _ _ _ _ _ _ _ _ _ _ _ _ _ _ _)
      | (with_reducible exact ih3 _ _ _ _ _ _ _ _ _ _ _ _ _ _)
      | (with_reducible exact timeboundref32_Coef.mono _ _ _)
      | (with_reducible exact LeO.refl _)
      | (with_reducible exact LeO.none _)
      | (with_reducible refine LeO.ite ?_ ?_)
      | (with_reducible refine LeO.bind ?_ (fun _ => ?_))
      | exact ih0 _ _ _ _ _ _ _ _ _ _ _ _ _ _ _ _
      | exact ih1 _ _ _ _ _ _ _ _ _ _ _ _ _ _ _ _ _ _ _
      | exact ih2 _ _ _ _ _ _ _ _ _ _ _ _ _ _ _ _ _ _ _ _ _ _ _
      | exact ih3 _ _ _ _ _ _ _ _ _ _ _ _ _ _
      | exact timeboundref32_Coef.mono _ _ _
      | exact LeO.none _
      | refine LeO.ite ?_ ?_
      | refine LeO.bind ?_ (fun _ => ?_)
    · intro y0 y1 y2 y3 y4 y5 y6 y7 y8 y9 y10 y11 y12 y13 y14 y15 y16 y17 y18 y19 y20 y21 y22
      unfold timeboundref34_Leaf.l1
      repeat' first
      | (with_reducible exact ih0 _ _ _ _ _ _ _ _ _ _ _ _ _ _ _ _)
      | (with_reducible exact ih1 _ _ _ _ _ _ _ _ _ _ _ _ _ _ _ _ _ _ _)
      | (with_reducible exact ih2 _ _ _ _ _ _ _ _ _ _ _ _ _ _ _ _ _ _ _ _ _ _ _)
      | (with_reducible exact ih3 _ _ _ _ _ _ _ _ _ _ _ _ _ _)
      | (with_reducible exact timeboundref32_Coef.mono _ _ _)
      | (with_reducible exact LeO.refl _)
      | (with_reducible exact LeO.none _)
      | (with_reducible refine LeO.ite ?_ ?_)
      | (with_reducible refine LeO.bind ?_ (fun _ => ?_))
      | exact ih0 _ _ _ _ _ _ _ _ _ _ _ _ _ _ _ _
      | exact ih1 _ _ _ _ _ _ _ _ _ _ _ _ _ _ _ _ _ _ _
      | exact ih2 _ _ _ _ _ _ _ _ _ _ _ _ _ _ _ _ _ _ _ _ _ _ _
      | exact ih3 _ _ _ _ _ _ _ _ _ _ _ _ _ _
      | exact timeboundref32_Coef.mono _ _ _
      | exact LeO.none _
      | refine LeO.ite ?_ ?_
      | refine LeO.bind ?_ (fun _ => ?_)
    · intro y0 y1 y2 y3 y4 y5 y6 y7 y8 y9 y10 y11 y12 y13
      unfold timeboundref34_Leaf.l2
      repeat' first
      | (with_reducible exact ih0 _ _ _ _ _ _ _ _ _ _ _ _ _ _ _ _)
      | (with_reducible exact ih1 _ _ _ _ _ _ _ _ _ _ _ _ _ _ _ _ _ _ _)
      | (with_reducible exact ih2 _ _ _ _ _ _ _ _ _ _ _ _ _ _ _ _ _ _ _ _ _ _ _)
      | (with_reducible exact ih3 _ _ _ _ _ _ _ _ _ _ _ _ _ _)
      | (with_reducible exact timeboundref32_Coef.mono _ _ _)
      | (with_reducible exact LeO.refl _)
      | (with_reducible exact LeO.none _)
      | (with_reducible refine LeO.ite ?_ ?_)
      | (with_reducible refine LeO.bind ?_ (fun _ => ?_))
      | exact ih0 _ _ _ _ _ _ _ _ _ _ _ _ _ _ _ _
      | exact ih1 _ _ _ _ _ _ _ _ _ _ _ _ _ _ _ _ _ _ _
      | exact ih2 _ _ _ _ _ _ _ _ _ _ _ _ _ _ _ _ _ _ _ _ _ _ _
      | exact ih3 _ _ _ _ _ _ _ _ _ _ _ _ _ _
      | exact timeboundref32_Coef.mono _ _ _
      | exact LeO.none _
      | refine LeO.ite ?_ ?_
      | refine LeO.bind ?_ (fun _ => ?_)
theorem timeboundref34_Leaf.mono : ∀ a0 a1 a2 a3 a4 a5 a6 a7 a8 a9 a10 k, LeO (timeboundref34_Leaf.f k a0 a1 a2 a3 a4 a5 a6 a7 a8 a9 a10) (timeboundref34_Leaf.f (k + 1) a0 a1 a2 a3 a4 a5 a6 a7 a8 a9 a10) := by
  intro a0 a1 a2 a3 a4 a5 a6 a7 a8 a9 a10 k
  obtain ⟨ih0, ih1, ih2, ih3⟩ := timeboundref34_Leaf.mono_l k
  unfold timeboundref34_Leaf.f
  repeat' first
      | (with_reducible exact ih0 _ _ _ _ _ _ _ _ _ _ _ _ _ _ _ _)
      | (with_reducible exact ih1 _ _ _ _ _ _ _ _ _ _ _ _ _ _ _ _ _ _ _)
      | (with_reducible exact ih2 _ _ _ _ _ _ _ _ _ _ _ _ _ _ _ _ _ _ _ _ _ _ _)
      | (with_reducible exact ih3 _ _ _ _ _ _ _ _ _ _ _ _ _ _)
      | (with_reducible exact timeboundref32_Coef.mono _ _ _)
      | (with_reducible exact LeO.refl _)
      | (with_reducible exact LeO.none _)
      | (with_reducible refine LeO.ite ?_ ?_)
      | (with_reducible refine LeO.bind ?_ (fun _ => ?_))
      | exact ih0 _ _ _ _ _ _ _ _ _ _ _ _ _ _ _ _
      | exact ih1 _ _ _ _ _ _ _ _ _ _ _ _ _ _ _ _ _ _ _
      | exact ih2 _ _ _ _ _ _ _ _ _ _ _ _ _ _ _ _ _ _ _ _ _ _ _
      | exact ih3 _ _ _ _ _ _ _ _ _ _ _ _ _ _
      | exact timeboundref32_Coef.mono _ _ _
      | exact LeO.none _
      | refine LeO.ite ?_ ?_
      | refine LeO.bind ?_ (fun _ => ?_)
def timeboundref34_Leaf.T15 : Bool × List (List Nat × List Nat) := (true, [([], []), ([], []), ([1], [1]), ([0, 2], [0, 2]), ([3], [3]), ([], []), ([5], [5]), ([], []), ([7], [7]), ([6, 8], [6, 8]), ([4, 9], [4, 9]), ([0, 2, 0, 1, 2, 3, 4, 5, 6, 7, 8, 9, 10], [0, 2]), ([11, 10, 0, 1, 2, 3, 4, 5, 6, 7, 8, 9, 10], [10, 11])])
def timeboundref34_Leaf.B15 : List Nat := [0, 0, 2, 7, 15, 0, 32, 0, 128, 480, 1023, 2047, 4095]
theorem timeboundref34_Leaf.tab15 : rtab .any (opsOf Try.f55 15) = timeboundref34_Leaf.T15 := by kernel_rfl
theorem timeboundref34_Leaf.bits15 : waitsOk timeboundref34_Leaf.T15.2 timeboundref34_Leaf.B15 = true := by kernel_rfl
def timeboundref34_Leaf.T22 : Bool × List (List Nat × List Nat) := (true, [([], []), ([], []), ([1], [1]), ([], []), ([3], [3]), ([], []), ([4, 5], [4, 5]), ([2, 6], [2, 6]), ([0, 7], [0, 7])])
def timeboundref34_Leaf.B22 : List Nat := [0, 0, 2, 0, 8, 0, 56, 126, 255]
theorem timeboundref34_Leaf.tab22 : rtab .any (opsOf Try.f55 22) = timeboundref34_Leaf.T22 := by kernel_rfl
theorem timeboundref34_Leaf.bits22 : waitsOk timeboundref34_Leaf.T22.2 timeboundref34_Leaf.B22 = true := by kernel_rfl
set_option maxHeartbeats 8000000 in
set_option maxRecDepth 100000 in
theorem timeboundref34_Leaf.calls (k : Nat) (a0_0 : Int) (A0_1 : Option Addr) (c0_1 : Nat) (l0_1 : List (S96)) (A0_2 : Option Addr) (c0_2 : Nat) (l0_2 : List (S109)) (a0_3 : Int) (A1 : Option Addr) (c1 : Nat) (l1 : List (S96)) (a2_0 : Int) (a2_1 : Int) (A2_2 : Option Addr) (c2_2 : Nat) (l2_2 : List (S109)) (a2_3 : Int) (A2_4 : Option Addr) (c2_4 : Nat) (l2_4 : List (S109)) (a2_5 : Int) (r1 : Int) (r2 : Bool) (r3 : Bool) (w : World) (hr0_1 : Kd.C k96 w A0_1 l0_1.length l0_1) (hc0_1 : l0_1.length ≤ c0_1) (hr0_2 : Kd.C k109 w A0_2 l0_2.length l0_2) (hc0_2 : l0_2.length ≤ c0_2) (hr1 : Kd.C k96 w A1 l1.length l1) (hc1 : l1.length ≤ c1) (hr2_2 : Kd.C k109 w A2_2 l2_2.length l2_2) (hc2_2 : l2_2.length ≤ c2_2) (hr2_4 : Kd.C k109 w A2_4 l2_4.length l2_4) (hc2_4 : l2_4.length ≤ c2_4) (h : timeboundref34_Leaf.f k a0_0 l0_1 l0_2 a0_3 l1 a2_0 a2_1 l2_2 a2_3 l2_4 a2_5 = some (r1, r2, r3)) :
    Calls Try.prog 55 #[.agg #[.int .i64 a0_0, .slice A0_1 l0_1.length c0_1, .slice A0_2 l0_2.length c0_2, .int .i64 a0_3], .slice A1 l1.length c1, .agg #[.int .i64 a2_0, .int .i64 a2_1, .slice A2_2 l2_2.length c2_2, .int .i64 a2_3, .slice A2_4 l2_4.length c2_4, .int .i64 a2_5]] w fun e w' => e = .returned (.tuple #[.int .i64 r1, .bool r2, .bool r3]) ∧ Below w.heap.size w w' := by
  have hu29 := Try.underlying29
  have hu90 := Try.underlying90
  have hu109 := Try.underlying109
  have hu96 := Try.underlying96
  have HR0_1 := Aside0.mk hr0_1
  have HC0_1 := Aside0.mk hc0_1
  clear hr0_1 hc0_1
  have HR0_2 := Aside0.mk hr0_2
  have HC0_2 := Aside0.mk hc0_2
  clear hr0_2 hc0_2
  have HR1 := Aside0.mk hr1
  have HC1 := Aside0.mk hc1
  clear hr1 hc1
  have HR2_2 := Aside0.mk hr2_2
  have HC2_2 := Aside0.mk hc2_2
  clear hr2_2 hc2_2
  have HR2_4 := Aside0.mk hr2_4
  have HC2_4 := Aside0.mk hc2_4
  clear hr2_4 hc2_4
  have HB := Aside0.mk (Below.refl w.heap.size w)
  have H : (if 0 ≤ a0_0 then (if (a0_0 : Int).toNat ≤ 35184372088832 then (timeboundref34_Leaf.l0 k l1 (List.replicate (a0_0 : Int).toNat 0) 0 l2_4 (l2_4.length : Int) 0 a0_0 l0_1 l0_2 a0_3 a2_0 a2_1 l2_2 a2_3 l2_4 a2_5) else (none)) else (none)) = some (r1, r2, r3) := h
  clear h
  by_cases c4 : 0 ≤ a0_0
  · rw [if_pos c4] at H
    have c4b0 := eq_true c4
    have c4b1 : decide (0 ≤ a0_0) = true := decide_eq_true c4
    clear c4
    by_cases c5 : (a0_0 : Int).toNat ≤ 35184372088832
    · rw [if_pos c5] at H
      have c5b0 := eq_true c5
      have c5b1 : decide ((a0_0 : Int).toNat ≤ 35184372088832) = true := decide_eq_true c5
      clear c5
      obtain ⟨y300, hy300⟩ : ∃ y_ : List Int, y_ = (List.replicate (a0_0 : Int).toNat 0) := ⟨_, rfl⟩
      replace H : (timeboundref34_Leaf.l0 k l1 y300 0 l2_4 (l2_4.length : Int) 0 a0_0 l0_1 l0_2 a0_3 a2_0 a2_1 l2_2 a2_3 l2_4 a2_5) = some (r1, r2, r3) := by first | (rw [hy300]; with_reducible exact H) | (have H2_ := (Option.bind_some _ _).symm.trans H; rw [hy300]; with_reducible exact H2_) | (have H2_ := (Option.bind_some _ _).symm.trans H; with_reducible exact H2_) | with_reducible exact H | (rw [hy300]; exact H) | exact H
      have Ny300 := Aside0.mk hy300
      clear hy300
      have H' := Aside0.mk H
      clear H
      go_enter Try.func55, Try.ntmps55
      go_wp2_with (first | ((with_reducible refine gate_dst (N := 3) rfl ?_); (try (refine gate_guard (by rfl) ?_; dsimp only)); refine box_event ?hg (N := 3) ?hd (cs := #[.int .i64 a0_0, .slice A0_1 l0_1.length c0_1, .slice A0_2 l0_2.length c0_2, .int .i64 a0_3]) (t := 29) ?hr ?_; (case hd => rfl); (case hg => rfl); (case hr => first | (go_simp; done) | (go_simp; rfl)); intro gb298 hg w6 hbox hb; have n0_ := Aside0.mk (below_step (by repeat (first | (with_reducible first | exact HB.out | apply below_alloc | apply pw_below_drewN | apply below_drew1) | exact HB.out)) hb); have n1_ := Aside0.mk (hbox); have n2_ := Aside0.mk ((by rw [hg]; exact (below_size (by repeat (first | (with_reducible first | exact HB.out | apply below_alloc | apply pw_below_drewN | apply below_drew1) | exact HB.out))) : w.heap.size ≤ gb298)); have n3_ := Aside0.mk ((by rw [hg]; exact (below_size (by repeat (first | (with_reducible first | exact HB.out | apply below_alloc | apply pw_below_drewN | apply below_drew1) | exact HB.out))) : w.heap.size ≤ gb298)); clear HB; have HB := n0_; have BK298 := n1_; have GW298 := n2_; have GE298 := n3_; clear n0_ n1_ n2_ n3_; clear hb hbox hg) | ((with_reducible refine gate_dst (N := 5) rfl ?_); (try (refine gate_guard (by rfl) ?_; dsimp only)); refine box_event ?hg (N := 5) ?hd (cs := #[.int .i64 a2_0, .int .i64 a2_1, .slice A2_2 l2_2.length c2_2, .int .i64 a2_3, .slice A2_4 l2_4.length c2_4, .int .i64 a2_5]) (t := 90) ?hr ?_; (case hd => rfl); (case hg => rfl); (case hr => first | (go_simp; done) | (go_simp; rfl)); intro gb299 hg w7 hbox hb; have n0_ := Aside0.mk (blk_below (g := gb298) (o := .cells #[.int .i64 a0_0, .slice A0_1 l0_1.length c0_1, .slice A0_2 l0_2.length c0_2, .int .i64 a0_3] 29 (0, 0)) (by (with_reducible repeat (first | refine blk_drewN ?_ _ | refine blk_drew ?_ | refine blk_alloc ?_ _)); exact BK298.out) hb); have n1_ := Aside0.mk (below_step (by repeat (first | (with_reducible first | exact HB.out | apply below_alloc | apply pw_below_drewN | apply below_drew1 | refine below_set ?_ GE298.out) | exact HB.out)) hb); have n2_ := Aside0.mk (hbox); have n3_ := Aside0.mk ((by rw [hg]; exact (below_size (by repeat (first | (with_reducible first | exact HB.out | apply below_alloc | apply pw_below_drewN | apply below_drew1 | refine below_set ?_ GE298.out) | exact HB.out))) : w.heap.size ≤ gb299)); have n4_ := Aside0.mk ((by rw [hg]; exact (below_size (by repeat (first | (with_reducible first | exact HB.out | apply below_alloc | apply pw_below_drewN | apply below_drew1 | refine below_set ?_ GE298.out) | exact HB.out))) : w.heap.size ≤ gb299)); have n5_ := Aside0.mk ((by rw [hg]; exact Nat.ne_of_lt (blk_lt (g := gb298) (o := .cells #[.int .i64 a0_0, .slice A0_1 l0_1.length c0_1, .slice A0_2 l0_2.length c0_2, .int .i64 a0_3] 29 (0, 0)) (by (with_reducible repeat (first | refine blk_drewN ?_ _ | refine blk_drew ?_ | refine blk_alloc ?_ _)); exact BK298.out)) : gb298 ≠ gb299)); have n6_ := Aside0.mk ((by rw [hg]; exact Nat.ne_of_gt (blk_lt (g := gb298) (o := .cells #[.int .i64 a0_0, .slice A0_1 l0_1.length c0_1, .slice A0_2 l0_2.length c0_2, .int .i64 a0_3] 29 (0, 0)) (by (with_reducible repeat (first | refine blk_drewN ?_ _ | refine blk_drew ?_ | refine blk_alloc ?_ _)); exact BK298.out)) : gb299 ≠ gb298)); clear BK298; clear HB; have BK298 := n0_; have HB := n1_; have BK299 := n2_; have GW299 := n3_; have GE299 := n4_; have NB298_299 := n5_; have NB299_298 := n6_; clear n0_ n1_ n2_ n3_ n4_ n5_ n6_; clear hb hbox hg; have hnb8 := NB298_299.out; have hnc8 := NB299_298.out; have hcz9_0 : w7.cell? ⟨gb298, 0, none⟩ = some (.int .i64 a0_0) := (blk_cell BK298.out 0).trans rfl; have hcz9_1 : w7.cell? ⟨gb298, 1, none⟩ = some (.slice A0_1 l0_1.length c0_1) := (blk_cell BK298.out 1).trans rfl; have hcz9_2 : w7.cell? ⟨gb298, 2, none⟩ = some (.slice A0_2 l0_2.length c0_2) := (blk_cell BK298.out 2).trans rfl; have hcz9_3 : w7.cell? ⟨gb298, 3, none⟩ = some (.int .i64 a0_3) := (blk_cell BK298.out 3).trans rfl; have hfz9_0 := blk_frozen BK298.out 0; have hfz9_1 := blk_frozen BK298.out 1; have hfz9_2 := blk_frozen BK298.out 2; have hfz9_3 := blk_frozen BK298.out 3) | ((with_reducible refine gate_dst (N := 21) rfl ?_); (try (refine gate_guard (by rfl) ?_; dsimp only)); refine Kd.R_make (Kd.int .i64) _ 3 rfl (N := 21) rfl 22 _ _ rfl a0_0 rfl rfl Try.underlying22 (.int .i64 0) 8 info3 rfl (by decide) (by omega) 0 (ok := fun _ => True) (okp := fun _ => True) rfl (fun _ hk => hk) trivial (of_decide_eq_true (by first | (with_reducible assumption) | assumption)) (Nat.le_trans (Nat.mul_le_mul_right _ (of_decide_eq_true (by first | (with_reducible assumption) | assumption) : a0_0.toNat ≤ 35184372088832)) (by omega)) (Below.refl _ _) (Nat.le_refl _) ?_; intro v301 w10 ho11 hb hg_ hnew_; clear hg_ hnew_; (first | rw [← Ny300.out] at ho11 | (simp only [Int.reduceToNat] at ho11; rw [← Ny300.out] at ho11)); have n0_ := Aside0.mk (Kd.R_lower ho11 (below_size (by repeat (first | (with_reducible first | exact HB.out | apply below_alloc | apply pw_below_drewN | apply below_drew1 | refine below_set ?_ GE298.out | refine below_set ?_ GE299.out) | exact HB.out)))); have n1_ := Aside0.mk (blk_below (g := gb298) (o := .cells #[.int .i64 a0_0, .slice A0_1 l0_1.length c0_1, .slice A0_2 l0_2.length c0_2, .int .i64 a0_3] 29 (0, 0)) (by (with_reducible repeat (first | refine blk_drewN ?_ _ | refine blk_drew ?_ | refine blk_alloc ?_ _)); exact BK298.out) hb); have n2_ := Aside0.mk (blk_below (g := gb299) (o := .cells #[.int .i64 a2_0, .int .i64 a2_1, .slice A2_2 l2_2.length c2_2, .int .i64 a2_3, .slice A2_4 l2_4.length c2_4, .int .i64 a2_5] 90 (0, 0)) (by (with_reducible repeat (first | refine blk_drewN ?_ _ | refine blk_drew ?_ | refine blk_alloc ?_ _)); exact BK299.out) hb); have n3_ := Aside0.mk (below_step (by repeat (first | (with_reducible first | exact HB.out | apply below_alloc | apply pw_below_drewN | apply below_drew1 | refine below_set ?_ GE298.out | refine below_set ?_ GE299.out) | exact HB.out)) hb); clear BK298; clear BK299; clear HB; have HO302 := n0_; have BK298 := n1_; have BK299 := n2_; have HB := n3_; clear n0_ n1_ n2_ n3_; clear hb ho11; have hcz12_0 : w10.cell? ⟨gb299, 0, none⟩ = some (.int .i64 a2_0) := (blk_cell BK299.out 0).trans rfl; have hcz12_1 : w10.cell? ⟨gb299, 1, none⟩ = some (.int .i64 a2_1) := (blk_cell BK299.out 1).trans rfl; have hcz12_2 : w10.cell? ⟨gb299, 2, none⟩ = some (.slice A2_2 l2_2.length c2_2) := (blk_cell BK299.out 2).trans rfl; have hcz12_3 : w10.cell? ⟨gb299, 3, none⟩ = some (.int .i64 a2_3) := (blk_cell BK299.out 3).trans rfl; have hcz12_4 : w10.cell? ⟨gb299, 4, none⟩ = some (.slice A2_4 l2_4.length c2_4) := (blk_cell BK299.out 4).trans rfl; have hcz12_5 : w10.cell? ⟨gb299, 5, none⟩ = some (.int .i64 a2_5) := (blk_cell BK299.out 5).trans rfl; have hfz12_0 := blk_frozen BK299.out 0; have hfz12_1 := blk_frozen BK299.out 1; have hfz12_2 := blk_frozen BK299.out 2; have hfz12_3 := blk_frozen BK299.out 3; have hfz12_4 := blk_frozen BK299.out 4; have hfz12_5 := blk_frozen BK299.out 5))
      go_loopg [10, 25] k (fun kq v10 v25 w' => ∃ (x9_1 : List Int) (x10_1 : Int) (x25_1 : Int), v10 = .int .i64 x10_1 ∧ v25 = .int .i64 x25_1 ∧ Aside0 (timeboundref34_Leaf.l0 kq l1 x9_1 x10_1 l2_4 (l2_4.length : Int) x25_1 a0_0 l0_1 l0_2 a0_3 a2_0 a2_1 l2_2 a2_3 l2_4 a2_5 = some (r1, r2, r3)) ∧ Aside0 (kq ≤ k) ∧ Aside0 (Kd.R (Kd.int .i64) 3 w' w.heap.size (fun _ => True) v301 x9_1) ∧ Aside0 (w'.heap[gb298]? = some (.cells #[.int .i64 a0_0, (.slice A0_1 l0_1.length c0_1), (.slice A0_2 l0_2.length c0_2), .int .i64 a0_3] 29 (0, 0))) ∧ Aside0 (w'.heap[gb299]? = some (.cells #[.int .i64 a2_0, .int .i64 a2_1, (.slice A2_2 l2_2.length c2_2), .int .i64 a2_3, (.slice A2_4 l2_4.length c2_4), .int .i64 a2_5] 90 (0, 0))) ∧ Aside0 (Below w.heap.size w w'))
      case atStart => exact ⟨(y300), (0), (0), (by first | rfl | (simp; done) | (simp [*]; done)), (by first | rfl | (simp; done) | (simp [*]; done)), H', ⟨Nat.le_refl _⟩, ⟨by (with_reducible repeat (first | apply Kd.R_alloc | apply Kd.R_drewN | apply Kd.R_drew)); exact HO302.out⟩, ⟨by (with_reducible repeat (first | refine blk_drewN ?_ _ | refine blk_drew ?_ | refine blk_alloc ?_ _)); exact BK298.out⟩, ⟨by (with_reducible repeat (first | refine blk_drewN ?_ _ | refine blk_drew ?_ | refine blk_alloc ?_ _)); exact BK299.out⟩, ⟨by repeat (first | (with_reducible first | exact HB.out | apply below_alloc | apply pw_below_drewN | apply below_drew1 | refine below_set ?_ GE298.out | refine below_set ?_ GE299.out) | exact HB.out)⟩⟩
      case round =>
        clear H'
        try clear c1
        try clear c2
        try clear p2
        try clear c4
        try clear c4b0
        try clear c4b1
        try clear c5
        try clear c5b0
        try clear c5b1
        try clear c8
        try clear hcz12_0
        try clear hcz12_1
        try clear hcz12_2
        try clear hcz12_3
        try clear hcz12_4
        try clear hcz12_5
        try clear hcz9_0
        try clear hcz9_1
        try clear hcz9_2
        try clear hcz9_3
        try clear hfz12_0
        try clear hfz12_1
        try clear hfz12_2
        try clear hfz12_3
        try clear hfz12_4
        try clear hfz12_5
        try clear hfz9_0
        try clear hfz9_1
        try clear hfz9_2
        try clear hfz9_3
        obtain ⟨x9_1, x10_1, x25_1, rfl, rfl, HA, HK1, HO_9, BK298, BK299, HB⟩ := hrel
        cases gk with
        | zero => exact absurd HA.out (by simp [timeboundref34_Leaf.l0])
        | succ k1 =>
          have H := HA.out
          clear HA
          simp only [timeboundref34_Leaf.l0] at H
          by_cases c13 : x25_1 < (l2_4.length : Int)
          · rw [if_pos c13] at H
            have c13b0 : decide (x25_1 < (l2_4.length : Int)) = true := decide_eq_true c13
            clear c13
            by_cases c14 : 0 ≤ x25_1
            · rw [if_pos c14] at H
              have c14b0 : decide (0 ≤ x25_1) = true := decide_eq_true c14
              clear c14
              by_cases c15 : x25_1 < (l2_4.length : Int)
              · rw [if_pos c15] at H
                have c15b0 : decide (x25_1 < (l2_4.length : Int)) = true := decide_eq_true c15
                clear c15
                have HC16 := Aside0.mk H
                clear H
                have p303 : 0 ≤ (x25_1 : Int) := of_decide_eq_true (by first | (with_reducible assumption) | assumption)
                have q303 : x25_1 < (l2_4.length : Int) := of_decide_eq_true (by first | (with_reducible assumption) | assumption)
                obtain ⟨ad303, e303, hx303_0, hx303_1⟩ := at_T109 HR2_4.out x25_1 p303 q303
                cases e303
                replace hx303_0 := (HB.out.cell (World.block_lt_of_cell? w _ hx303_0)).trans hx303_0
                replace hx303_1 := (HB.out.cell (World.block_lt_of_cell? w _ hx303_1)).trans hx303_1
                replace p303 := eq_true p303
                replace q303 := eq_true q303
                go_upto_region 8 with (first | ((with_reducible refine gate_dst (N := 12) rfl ?_); (try (refine gate_guard (by rfl) ?_; dsimp only)); refine box_event ?hg (N := 12) ?hd (cs := #[.int .i64 0, .int .i64 0]) (t := 109) ?hr ?_; (case hd => rfl); (case hg => rfl); (case hr => first | (go_simp; done) | (go_simp; rfl)); intro gb304 hg w17 hbox hb; have n0_ := Aside0.mk (Kd.R_below (by (with_reducible repeat (first | apply Kd.R_alloc | apply Kd.R_drewN | apply Kd.R_drew)); exact HO_9.out) hb); have n1_ := Aside0.mk (blk_below (g := gb298) (o := .cells #[.int .i64 a0_0, .slice A0_1 l0_1.length c0_1, .slice A0_2 l0_2.length c0_2, .int .i64 a0_3] 29 (0, 0)) (by (with_reducible repeat (first | refine blk_drewN ?_ _ | refine blk_drew ?_ | refine blk_alloc ?_ _)); exact BK298.out) hb); have n2_ := Aside0.mk (blk_below (g := gb299) (o := .cells #[.int .i64 a2_0, .int .i64 a2_1, .slice A2_2 l2_2.length c2_2, .int .i64 a2_3, .slice (some ad303) l2_4.length c2_4, .int .i64 a2_5] 90 (0, 0)) (by (with_reducible repeat (first | refine blk_drewN ?_ _ | refine blk_drew ?_ | refine blk_alloc ?_ _)); exact BK299.out) hb); have n3_ := Aside0.mk (below_step (by repeat (first | (with_reducible first | exact HB.out | apply below_alloc | apply pw_below_drewN | apply below_drew1 | refine below_set ?_ GE298.out | refine below_set ?_ GE299.out) | exact HB.out)) hb); have n4_ := Aside0.mk (hbox); have n5_ := Aside0.mk ((by rw [hg]; exact (below_size (by repeat (first | (with_reducible first | exact HB.out | apply below_alloc | apply pw_below_drewN | apply below_drew1 | refine below_set ?_ GE298.out | refine below_set ?_ GE299.out) | exact HB.out))) : w.heap.size ≤ gb304)); have n6_ := Aside0.mk ((by rw [hg]; exact (below_size (by repeat (first | (with_reducible first | exact HB.out | apply below_alloc | apply pw_below_drewN | apply below_drew1 | refine below_set ?_ GE298.out | refine below_set ?_ GE299.out) | exact HB.out))) : w.heap.size ≤ gb304)); have n7_ := Aside0.mk ((by rw [hg]; exact Nat.ne_of_lt (blk_lt (g := gb298) (o := .cells #[.int .i64 a0_0, .slice A0_1 l0_1.length c0_1, .slice A0_2 l0_2.length c0_2, .int .i64 a0_3] 29 (0, 0)) (by (with_reducible repeat (first | refine blk_drewN ?_ _ | refine blk_drew ?_ | refine blk_alloc ?_ _)); exact BK298.out)) : gb298 ≠ gb304)); have n8_ := Aside0.mk ((by rw [hg]; exact Nat.ne_of_gt (blk_lt (g := gb298) (o := .cells #[.int .i64 a0_0, .slice A0_1 l0_1.length c0_1, .slice A0_2 l0_2.length c0_2, .int .i64 a0_3] 29 (0, 0)) (by (with_reducible repeat (first | refine blk_drewN ?_ _ | refine blk_drew ?_ | refine blk_alloc ?_ _)); exact BK298.out)) : gb304 ≠ gb298)); have n9_ := Aside0.mk ((by rw [hg]; exact Nat.ne_of_lt (blk_lt (g := gb299) (o := .cells #[.int .i64 a2_0, .int .i64 a2_1, .slice A2_2 l2_2.length c2_2, .int .i64 a2_3, .slice (some ad303) l2_4.length c2_4, .int .i64 a2_5] 90 (0, 0)) (by (with_reducible repeat (first | refine blk_drewN ?_ _ | refine blk_drew ?_ | refine blk_alloc ?_ _)); exact BK299.out)) : gb299 ≠ gb304)); have n10_ := Aside0.mk ((by rw [hg]; exact Nat.ne_of_gt (blk_lt (g := gb299) (o := .cells #[.int .i64 a2_0, .int .i64 a2_1, .slice A2_2 l2_2.length c2_2, .int .i64 a2_3, .slice (some ad303) l2_4.length c2_4, .int .i64 a2_5] 90 (0, 0)) (by (with_reducible repeat (first | refine blk_drewN ?_ _ | refine blk_drew ?_ | refine blk_alloc ?_ _)); exact BK299.out)) : gb304 ≠ gb299)); clear HO_9; clear BK298; clear BK299; clear HB; have HO_9 := n0_; have BK298 := n1_; have BK299 := n2_; have HB := n3_; have BK304 := n4_; have GW304 := n5_; have GE304 := n6_; have NB298_304 := n7_; have NB304_298 := n8_; have NB299_304 := n9_; have NB304_299 := n10_; clear n0_ n1_ n2_ n3_ n4_ n5_ n6_ n7_ n8_ n9_ n10_; clear hb hbox hg; have hnb18 := NB304_298.out; have hnc18 := NB298_304.out; have hnb19 := NB304_299.out; have hnc19 := NB299_304.out; have hcz20_0 : w17.cell? ⟨gb304, 0, none⟩ = some (.int .i64 0) := (blk_cell BK304.out 0).trans rfl; have hcz20_1 : w17.cell? ⟨gb304, 1, none⟩ = some (.int .i64 0) := (blk_cell BK304.out 1).trans rfl; have hfz20_0 := blk_frozen BK304.out 0; have hfz20_1 := blk_frozen BK304.out 1) | ((with_reducible refine gate_dst (N := 13) rfl ?_); (try (refine gate_guard (by rfl) ?_; dsimp only)); refine box_event ?hg (N := 13) ?hd (cs := #[.slice none 0 0, .int .i64 0]) (t := 96) ?hr ?_; (case hd => rfl); (case hg => rfl); (case hr => first | (go_simp; done) | (go_simp; rfl)); intro gb305 hg w21 hbox hb; have n0_ := Aside0.mk (Kd.R_below (by (with_reducible repeat (first | apply Kd.R_alloc | apply Kd.R_drewN | apply Kd.R_drew)); exact (Kd.R_mono (Kd.R_far (p := ⟨gb304, 1, none⟩) (Kd.R_far (p := ⟨gb304, 0, none⟩) (Kd.R_types HO_9.out BK304.out (by decide)) (fun _ hk => hk.2) (.int .i64 ((rd_T109 l2_4 x25_1).f0))) (fun _ hk => hk.2) (.int .i64 ((rd_T109 l2_4 x25_1).f1))) (fun _ h_ => h_.1))) hb); have n1_ := Aside0.mk (blk_below (g := gb298) (o := .cells #[.int .i64 a0_0, .slice A0_1 l0_1.length c0_1, .slice A0_2 l0_2.length c0_2, .int .i64 a0_3] 29 (0, 0)) (by (with_reducible repeat (first | refine blk_drewN ?_ _ | refine blk_drew ?_ | refine blk_alloc ?_ _)); refine blk_far ?_ NB298_304.out _; (with_reducible repeat (first | refine blk_drewN ?_ _ | refine blk_drew ?_ | refine blk_alloc ?_ _)); refine blk_far ?_ NB298_304.out _; (with_reducible repeat (first | refine blk_drewN ?_ _ | refine blk_drew ?_ | refine blk_alloc ?_ _)); exact BK298.out) hb); have n2_ := Aside0.mk (blk_below (g := gb299) (o := .cells #[.int .i64 a2_0, .int .i64 a2_1, .slice A2_2 l2_2.length c2_2, .int .i64 a2_3, .slice (some ad303) l2_4.length c2_4, .int .i64 a2_5] 90 (0, 0)) (by (with_reducible repeat (first | refine blk_drewN ?_ _ | refine blk_drew ?_ | refine blk_alloc ?_ _)); refine blk_far ?_ NB299_304.out _; (with_reducible repeat (first | refine blk_drewN ?_ _ | refine blk_drew ?_ | refine blk_alloc ?_ _)); refine blk_far ?_ NB299_304.out _; (with_reducible repeat (first | refine blk_drewN ?_ _ | refine blk_drew ?_ | refine blk_alloc ?_ _)); exact BK299.out) hb); have n3_ := Aside0.mk (blk_below (g := gb304) (o := .cells #[.int .i64 ((rd_T109 l2_4 x25_1).f0), .int .i64 ((rd_T109 l2_4 x25_1).f1)] 109 (0, 0)) (by (with_reducible repeat (first | refine blk_drewN ?_ _ | refine blk_drew ?_ | refine blk_alloc ?_ _)); refine blk_put (cs := #[.int .i64 ((rd_T109 l2_4 x25_1).f0), .int .i64 0]) ?_ 1 _ rfl; (with_reducible repeat (first | refine blk_drewN ?_ _ | refine blk_drew ?_ | refine blk_alloc ?_ _)); refine blk_put (cs := #[.int .i64 0, .int .i64 0]) ?_ 0 _ rfl; (with_reducible repeat (first | refine blk_drewN ?_ _ | refine blk_drew ?_ | refine blk_alloc ?_ _)); exact BK304.out) hb); have n4_ := Aside0.mk (below_step (by repeat (first | (with_reducible first | exact HB.out | apply below_alloc | apply pw_below_drewN | apply below_drew1 | refine below_set ?_ GE298.out | refine below_set ?_ GE299.out | refine below_set ?_ GE304.out) | exact HB.out)) hb); have n5_ := Aside0.mk (hbox); have n6_ := Aside0.mk ((by rw [hg]; exact (below_size (by repeat (first | (with_reducible first | exact HB.out | apply below_alloc | apply pw_below_drewN | apply below_drew1 | refine below_set ?_ GE298.out | refine below_set ?_ GE299.out | refine below_set ?_ GE304.out) | exact HB.out))) : w.heap.size ≤ gb305)); have n7_ := Aside0.mk ((by rw [hg]; exact (below_size (by repeat (first | (with_reducible first | exact HB.out | apply below_alloc | apply pw_below_drewN | apply below_drew1 | refine below_set ?_ GE298.out | refine below_set ?_ GE299.out | refine below_set ?_ GE304.out) | exact HB.out))) : w.heap.size ≤ gb305)); have n8_ := Aside0.mk ((by rw [hg]; exact Nat.ne_of_lt (blk_lt (g := gb298) (o := .cells #[.int .i64 a0_0, .slice A0_1 l0_1.length c0_1, .slice A0_2 l0_2.length c0_2, .int .i64 a0_3] 29 (0, 0)) (by (with_reducible repeat (first | refine blk_drewN ?_ _ | refine blk_drew ?_ | refine blk_alloc ?_ _)); refine blk_far ?_ NB298_304.out _; (with_reducible repeat (first | refine blk_drewN ?_ _ | refine blk_drew ?_ | refine blk_alloc ?_ _)); refine blk_far ?_ NB298_304.out _; (with_reducible repeat (first | refine blk_drewN ?_ _ | refine blk_drew ?_ | refine blk_alloc ?_ _)); exact BK298.out)) : gb298 ≠ gb305)); have n9_ := Aside0.mk ((by rw [hg]; exact Nat.ne_of_gt (blk_lt (g := gb298) (o := .cells #[.int .i64 a0_0, .slice A0_1 l0_1.length c0_1, .slice A0_2 l0_2.length c0_2, .int .i64 a0_3] 29 (0, 0)) (by (with_reducible repeat (first | refine blk_drewN ?_ _ | refine blk_drew ?_ | refine blk_alloc ?_ _)); refine blk_far ?_ NB298_304.out _; (with_reducible repeat (first | refine blk_drewN ?_ _ | refine blk_drew ?_ | refine blk_alloc ?_ _)); refine blk_far ?_ NB298_304.out _; (with_reducible repeat (first | refine blk_drewN ?_ _ | refine blk_drew ?_ | refine blk_alloc ?_ _)); exact BK298.out)) : gb305 ≠ gb298)); have n10_ := Aside0.mk ((by rw [hg]; exact Nat.ne_of_lt (blk_lt (g := gb299) (o := .cells #[.int .i64 a2_0, .int .i64 a2_1, .slice A2_2 l2_2.length c2_2, .int .i64 a2_3, .slice (some ad303) l2_4.length c2_4, .int .i64 a2_5] 90 (0, 0)) (by (with_reducible repeat (first | refine blk_drewN ?_ _ | refine blk_drew ?_ | refine blk_alloc ?_ _)); refine blk_far ?_ NB299_304.out _; (with_reducible repeat (first | refine blk_drewN ?_ _ | refine blk_drew ?_ | refine blk_alloc ?_ _)); refine blk_far ?_ NB299_304.out _; (with_reducible repeat (first | refine blk_drewN ?_ _ | refine blk_drew ?_ | refine blk_alloc ?_ _)); exact BK299.out)) : gb299 ≠ gb305)); have n11_ := Aside0.mk ((by rw [hg]; exact Nat.ne_of_gt (blk_lt (g := gb299) (o := .cells #[.int .i64 a2_0, .int .i64 a2_1, .slice A2_2 l2_2.length c2_2, .int .i64 a2_3, .slice (some ad303) l2_4.length c2_4, .int .i64 a2_5] 90 (0, 0)) (by (with_reducible repeat (first | refine blk_drewN ?_ _ | refine blk_drew ?_ | refine blk_alloc ?_ _)); refine blk_far ?_ NB299_304.out _; (with_reducible repeat (first | refine blk_drewN ?_ _ | refine blk_drew ?_ | refine blk_alloc ?_ _)); refine blk_far ?_ NB299_304.out _; (with_reducible repeat (first | refine blk_drewN ?_ _ | refine blk_drew ?_ | refine blk_alloc ?_ _)); exact BK299.out)) : gb305 ≠ gb299)); have n12_ := Aside0.mk ((by rw [hg]; exact Nat.ne_of_lt (blk_lt (g := gb304) (o := .cells #[.int .i64 ((rd_T109 l2_4 x25_1).f0), .int .i64 ((rd_T109 l2_4 x25_1).f1)] 109 (0, 0)) (by (with_reducible repeat (first | refine blk_drewN ?_ _ | refine blk_drew ?_ | refine blk_alloc ?_ _)); refine blk_put (cs := #[.int .i64 ((rd_T109 l2_4 x25_1).f0), .int .i64 0]) ?_ 1 _ rfl; (with_reducible repeat (first | refine blk_drewN ?_ _ | refine blk_drew ?_ | refine blk_alloc ?_ _)); refine blk_put (cs := #[.int .i64 0, .int .i64 0]) ?_ 0 _ rfl; (with_reducible repeat (first | refine blk_drewN ?_ _ | refine blk_drew ?_ | refine blk_alloc ?_ _)); exact BK304.out)) : gb304 ≠ gb305)); have n13_ := Aside0.mk ((by rw [hg]; exact Nat.ne_of_gt (blk_lt (g := gb304) (o := .cells #[.int .i64 ((rd_T109 l2_4 x25_1).f0), .int .i64 ((rd_T109 l2_4 x25_1).f1)] 109 (0, 0)) (by (with_reducible repeat (first | refine blk_drewN ?_ _ | refine blk_drew ?_ | refine blk_alloc ?_ _)); refine blk_put (cs := #[.int .i64 ((rd_T109 l2_4 x25_1).f0), .int .i64 0]) ?_ 1 _ rfl; (with_reducible repeat (first | refine blk_drewN ?_ _ | refine blk_drew ?_ | refine blk_alloc ?_ _)); refine blk_put (cs := #[.int .i64 0, .int .i64 0]) ?_ 0 _ rfl; (with_reducible repeat (first | refine blk_drewN ?_ _ | refine blk_drew ?_ | refine blk_alloc ?_ _)); exact BK304.out)) : gb305 ≠ gb304)); clear HO_9; clear BK298; clear BK299; clear BK304; clear HB; have HO_9 := n0_; have BK298 := n1_; have BK299 := n2_; have BK304 := n3_; have HB := n4_; have BK305 := n5_; have GW305 := n6_; have GE305 := n7_; have NB298_305 := n8_; have NB305_298 := n9_; have NB299_305 := n10_; have NB305_299 := n11_; have NB304_305 := n12_; have NB305_304 := n13_; clear n0_ n1_ n2_ n3_ n4_ n5_ n6_ n7_ n8_ n9_ n10_ n11_ n12_ n13_; clear hb hbox hg))
                (try simp only [Act.put, List.setIfInBounds_toArray, List.set_cons_zero, List.set_cons_succ])
                go_cut [38] (fun v38 wc => ∃ (kq : Nat) (x38_15 : Bool), v38 = .bool x38_15 ∧ Aside0 (timeboundref34_Leaf.j1 kq l1 x9_1 x10_1 l2_4 (l2_4.length : Int) x25_1 x38_15 a0_0 l0_1 l0_2 a0_3 a2_0 a2_1 l2_2 a2_3 l2_4 a2_5 ((rd_T109 l2_4 x25_1).f0) ((rd_T109 l2_4 x25_1).f1) = some (r1, r2, r3)) ∧ Aside0 (kq ≤ k1) ∧ Aside0 (Kd.R (Kd.int .i64) 3 wc w.heap.size (fun _ => True) v301 x9_1) ∧ Aside0 (wc.heap[gb298]? = some (.cells #[.int .i64 a0_0, (.slice A0_1 l0_1.length c0_1), (.slice A0_2 l0_2.length c0_2), .int .i64 a0_3] 29 (0, 0))) ∧ Aside0 (wc.heap[gb299]? = some (.cells #[.int .i64 a2_0, .int .i64 a2_1, (.slice A2_2 l2_2.length c2_2), .int .i64 a2_3, (.slice (some ad303) l2_4.length c2_4), .int .i64 a2_5] 90 (0, 0))) ∧ Aside0 (wc.heap[gb304]? = some (.cells #[.int .i64 ((rd_T109 l2_4 x25_1).f0), .int .i64 ((rd_T109 l2_4 x25_1).f1)] 109 (0, 0))) ∧ Aside0 (wc.heap[gb305]? = some (.cells #[(.slice none 0 0), .int .i64 0] 96 (0, 0))) ∧ Aside0 (Below w.heap.size w wc))
                case first =>
                  have H := HC16.out
                  clear HC16
                  by_cases c22 : ((rd_T109 l2_4 x25_1).f0) < 0
                  · rw [if_pos c22] at H
                    have c22b0 : decide (((rd_T109 l2_4 x25_1).f0) < 0) = true := decide_eq_true c22
                    clear c22
                    (first | rw [c22b0] | (simp only [i64_w, i32_w]; rw [c22b0]) | skip)
                    have H' := Aside0.mk H
                    clear H
                    have hnb23 := NB304_298.out
                    have hnc23 := NB298_304.out
                    have hnb24 := NB304_299.out
                    have hnc24 := NB299_304.out
                    have hnb25 := NB304_305.out
                    have hnc25 := NB305_304.out
                    have hcz26_0 : w21.cell? ⟨gb304, 0, none⟩ = some (.int .i64 ((rd_T109 l2_4 x25_1).f0)) := (blk_cell BK304.out 0).trans rfl
                    have hcz26_1 : w21.cell? ⟨gb304, 1, none⟩ = some (.int .i64 ((rd_T109 l2_4 x25_1).f1)) := (blk_cell BK304.out 1).trans rfl
                    have hfz26_0 := blk_frozen BK304.out 0
                    have hfz26_1 := blk_frozen BK304.out 1
                    go_wp2
                    go_meet
                    case rel => exact ⟨_, (true), (by first | rfl | (simp; done) | (simp [*]; done)), H', ⟨by have := HK1.out; first | omega | exact Nat.le_refl _⟩, ⟨by (with_reducible repeat (first | apply Kd.R_alloc | apply Kd.R_drewN | apply Kd.R_drew)); exact HO_9.out⟩, ⟨by (with_reducible repeat (first | refine blk_drewN ?_ _ | refine blk_drew ?_ | refine blk_alloc ?_ _)); exact BK298.out⟩, ⟨by (with_reducible repeat (first | refine blk_drewN ?_ _ | refine blk_drew ?_ | refine blk_alloc ?_ _)); exact BK299.out⟩, ⟨by (with_reducible repeat (first | refine blk_drewN ?_ _ | refine blk_drew ?_ | refine blk_alloc ?_ _)); exact BK304.out⟩, ⟨by (with_reducible repeat (first | refine blk_drewN ?_ _ | refine blk_drew ?_ | refine blk_alloc ?_ _)); exact BK305.out⟩, ⟨by repeat (first | (with_reducible first | exact HB.out | apply below_alloc | apply pw_below_drewN | apply below_drew1 | refine below_set ?_ GE298.out | refine below_set ?_ GE299.out | refine below_set ?_ GE304.out | refine below_set ?_ GE305.out) | exact HB.out)⟩⟩
                  · rw [if_neg c22] at H
                    have c22b0 : decide (((rd_T109 l2_4 x25_1).f0) < 0) = false := decide_eq_false c22
                    clear c22
                    (first | rw [c22b0] | (simp only [i64_w, i32_w]; rw [c22b0]) | skip)
                    have H' := Aside0.mk H
                    clear H
                    have hnb27 := NB304_298.out
                    have hnc27 := NB298_304.out
                    have hnb28 := NB304_299.out
                    have hnc28 := NB299_304.out
                    have hnb29 := NB304_305.out
                    have hnc29 := NB305_304.out
                    have hcz30_0 : w21.cell? ⟨gb304, 0, none⟩ = some (.int .i64 ((rd_T109 l2_4 x25_1).f0)) := (blk_cell BK304.out 0).trans rfl
                    have hcz30_1 : w21.cell? ⟨gb304, 1, none⟩ = some (.int .i64 ((rd_T109 l2_4 x25_1).f1)) := (blk_cell BK304.out 1).trans rfl
                    have hfz30_0 := blk_frozen BK304.out 0
                    have hfz30_1 := blk_frozen BK304.out 1
                    have hnb31 := NB298_299.out
                    have hnc31 := NB299_298.out
                    have hnb32 := NB298_305.out
                    have hnc32 := NB305_298.out
                    have hcz33_0 : w21.cell? ⟨gb298, 0, none⟩ = some (.int .i64 a0_0) := (blk_cell BK298.out 0).trans rfl
                    have hcz33_1 : w21.cell? ⟨gb298, 1, none⟩ = some (.slice A0_1 l0_1.length c0_1) := (blk_cell BK298.out 1).trans rfl
                    have hcz33_2 : w21.cell? ⟨gb298, 2, none⟩ = some (.slice A0_2 l0_2.length c0_2) := (blk_cell BK298.out 2).trans rfl
                    have hcz33_3 : w21.cell? ⟨gb298, 3, none⟩ = some (.int .i64 a0_3) := (blk_cell BK298.out 3).trans rfl
                    have hfz33_0 := blk_frozen BK298.out 0
                    have hfz33_1 := blk_frozen BK298.out 1
                    have hfz33_2 := blk_frozen BK298.out 2
                    have hfz33_3 := blk_frozen BK298.out 3
                    go_wp2
                    go_meet
                    case rel => exact ⟨_, (decide (((rd_T109 l2_4 x25_1).f0) ≥ (wrap64 ((l0_1.length : Int) + (l1.length : Int))))), (by first | rfl | (simp; done) | (simp [*]; done)), H', ⟨by have := HK1.out; first | omega | exact Nat.le_refl _⟩, ⟨by (with_reducible repeat (first | apply Kd.R_alloc | apply Kd.R_drewN | apply Kd.R_drew)); exact HO_9.out⟩, ⟨by (with_reducible repeat (first | refine blk_drewN ?_ _ | refine blk_drew ?_ | refine blk_alloc ?_ _)); exact BK298.out⟩, ⟨by (with_reducible repeat (first | refine blk_drewN ?_ _ | refine blk_drew ?_ | refine blk_alloc ?_ _)); exact BK299.out⟩, ⟨by (with_reducible repeat (first | refine blk_drewN ?_ _ | refine blk_drew ?_ | refine blk_alloc ?_ _)); exact BK304.out⟩, ⟨by (with_reducible repeat (first | refine blk_drewN ?_ _ | refine blk_drew ?_ | refine blk_alloc ?_ _)); exact BK305.out⟩, ⟨by repeat (first | (with_reducible first | exact HB.out | apply below_alloc | apply pw_below_drewN | apply below_drew1 | refine below_set ?_ GE298.out | refine below_set ?_ GE299.out | refine below_set ?_ GE304.out | refine below_set ?_ GE305.out) | exact HB.out)⟩⟩
                case rest =>
                  clear HC16
                  try clear c1
                  try clear c2
                  try clear p2
                  try clear c3
                  try clear p3
                  try clear q3
                  try clear hx3
                  try clear c4
                  try clear c4b0
                  try clear c4b1
                  try clear c5
                  try clear c5b0
                  try clear c5b1
                  try clear p6
                  try clear c8
                  try clear c13
                  try clear c13b0
                  try clear c14
                  try clear c14b0
                  try clear c15
                  try clear c15b0
                  try clear c18
                  try clear c19
                  try clear c22
                  try clear c22b0
                  try clear c23
                  try clear c24
                  try clear c25
                  try clear c27
                  try clear c28
                  try clear c29
                  try clear p30
                  try clear q30
                  try clear hx30
                  try clear c31
                  try clear c32
                  try clear hcz12_0
                  try clear hcz12_1
                  try clear hcz12_2
                  try clear hcz12_3
                  try clear hcz12_4
                  try clear hcz12_5
                  try clear hcz20_0
                  try clear hcz20_1
                  try clear hcz26_0
                  try clear hcz26_1
                  try clear hcz30_0
                  try clear hcz30_1
                  try clear hcz33_0
                  try clear hcz33_1
                  try clear hcz33_2
                  try clear hcz33_3
                  try clear hcz9_0
                  try clear hcz9_1
                  try clear hcz9_2
                  try clear hcz9_3
                  try clear hfz12_0
                  try clear hfz12_1
                  try clear hfz12_2
                  try clear hfz12_3
                  try clear hfz12_4
                  try clear hfz12_5
                  try clear hfz20_0
                  try clear hfz20_1
                  try clear hfz26_0
                  try clear hfz26_1
                  try clear hfz30_0
                  try clear hfz30_1
                  try clear hfz33_0
                  try clear hfz33_1
                  try clear hfz33_2
                  try clear hfz33_3
                  try clear hfz9_0
                  try clear hfz9_1
                  try clear hfz9_2
                  try clear hfz9_3
                  try clear hx303_0
                  try clear hx303_1
                  try clear p2
                  try clear p303
                  try clear q303
                  obtain ⟨kq, x38_15, rfl, HA, HJ15, HO_9, BK298, BK299, BK304, BK305, HB⟩ := hcut
                  cases kq with
                  | zero => exact absurd HA.out (by simp [timeboundref34_Leaf.j1])
                  | succ kj15 =>
                    have H := HA.out
                    clear HA
                    simp only [timeboundref34_Leaf.j1] at H
                    by_cases c34 : x38_15 = true
                    · subst c34
                      have H1 : (none) = some (r1, r2, r3) := by rw [if_pos rfl] at H; exact H
                      clear H
                      have H := H1
                      clear H1
                      exact absurd H (by simp)
                    · replace c34 := Bool.eq_false_iff.mpr c34
                      subst c34
                      have H1 : (if ((rd_T109 l2_4 x25_1).f0) < (l0_1.length : Int) then (if 0 ≤ ((rd_T109 l2_4 x25_1).f0) then (timeboundref34_Leaf.l1 kj15 l1 x9_1 x10_1 l2_4 (l2_4.length : Int) x25_1 ((rd_T96 l0_1 ((rd_T109 l2_4 x25_1).f0)).f0) (((rd_T96 l0_1 ((rd_T109 l2_4 x25_1).f0)).f0).length : Int) 0 a0_0 l0_1 l0_2 a0_3 a2_0 a2_1 l2_2 a2_3 l2_4 a2_5 ((rd_T109 l2_4 x25_1).f0) ((rd_T109 l2_4 x25_1).f1) ((rd_T96 l0_1 ((rd_T109 l2_4 x25_1).f0)).f0) ((rd_T96 l0_1 ((rd_T109 l2_4 x25_1).f0)).f1)) else (none)) else (none)) = some (r1, r2, r3) := by rw [if_neg (show ¬ (false = true) by decide)] at H; exact H
                      clear H
                      have H := H1
                      clear H1
                      by_cases c35 : ((rd_T109 l2_4 x25_1).f0) < (l0_1.length : Int)
                      · rw [if_pos c35] at H
                        have c35b0 : decide (((rd_T109 l2_4 x25_1).f0) < (l0_1.length : Int)) = true := decide_eq_true c35
                        clear c35
                        by_cases c36 : 0 ≤ ((rd_T109 l2_4 x25_1).f0)
                        · rw [if_pos c36] at H
                          have c36b0 : decide (0 ≤ ((rd_T109 l2_4 x25_1).f0)) = true := decide_eq_true c36
                          clear c36
                          have H' := Aside0.mk H
                          clear H
                          have hnb37 := NB304_298.out
                          have hnc37 := NB298_304.out
                          have hnb38 := NB304_299.out
                          have hnc38 := NB299_304.out
                          have hnb39 := NB304_305.out
                          have hnc39 := NB305_304.out
                          have hcz40_0 : wc.cell? ⟨gb304, 0, none⟩ = some (.int .i64 ((rd_T109 l2_4 x25_1).f0)) := (blk_cell BK304.out 0).trans rfl
                          have hcz40_1 : wc.cell? ⟨gb304, 1, none⟩ = some (.int .i64 ((rd_T109 l2_4 x25_1).f1)) := (blk_cell BK304.out 1).trans rfl
                          have hfz40_0 := blk_frozen BK304.out 0
                          have hfz40_1 := blk_frozen BK304.out 1
                          have hnb41 := NB298_299.out
                          have hnc41 := NB299_298.out
                          have hnb42 := NB298_305.out
                          have hnc42 := NB305_298.out
                          have hcz43_0 : wc.cell? ⟨gb298, 0, none⟩ = some (.int .i64 a0_0) := (blk_cell BK298.out 0).trans rfl
                          have hcz43_1 : wc.cell? ⟨gb298, 1, none⟩ = some (.slice A0_1 l0_1.length c0_1) := (blk_cell BK298.out 1).trans rfl
                          have hcz43_2 : wc.cell? ⟨gb298, 2, none⟩ = some (.slice A0_2 l0_2.length c0_2) := (blk_cell BK298.out 2).trans rfl
                          have hcz43_3 : wc.cell? ⟨gb298, 3, none⟩ = some (.int .i64 a0_3) := (blk_cell BK298.out 3).trans rfl
                          have hfz43_0 := blk_frozen BK298.out 0
                          have hfz43_1 := blk_frozen BK298.out 1
                          have hfz43_2 := blk_frozen BK298.out 2
                          have hfz43_3 := blk_frozen BK298.out 3
                          have p306 : 0 ≤ (((rd_T109 l2_4 x25_1).f0) : Int) := of_decide_eq_true (by first | (with_reducible assumption) | assumption)
                          have q306 : ((rd_T109 l2_4 x25_1).f0) < (l0_1.length : Int) := of_decide_eq_true (by first | (with_reducible assumption) | assumption)
                          obtain ⟨ad306, A306_0, c306_0, e306, hx306_0, hx306_1, hl306_0, hi306_0⟩ := at_T96 HR0_1.out ((rd_T109 l2_4 x25_1).f0) p306 q306
                          cases e306
                          replace hx306_0 := (HB.out.cell (World.block_lt_of_cell? w _ hx306_0)).trans hx306_0
                          replace hx306_1 := (HB.out.cell (World.block_lt_of_cell? w _ hx306_1)).trans hx306_1
                          have HR306_0 := Aside0.mk hi306_0
                          have HC306_0 := Aside0.mk hl306_0
                          clear hi306_0 hl306_0
                          replace p306 := eq_true p306
                          replace q306 := eq_true q306
                          have hnb44 := NB305_299.out
                          have hnc44 := NB299_305.out
                          have hcz45_0 : wc.cell? ⟨gb305, 0, none⟩ = some (.slice none 0 0) := (blk_cell BK305.out 0).trans rfl
                          have hcz45_1 : wc.cell? ⟨gb305, 1, none⟩ = some (.int .i64 0) := (blk_cell BK305.out 1).trans rfl
                          have hfz45_0 := blk_frozen BK305.out 0
                          have hfz45_1 := blk_frozen BK305.out 1
                          go_wp2
                          go_loopg [69] kj15 (fun kq v69 w' => ∃ (x9_3 : List Int) (x69_3 : Int), v69 = .int .i64 x69_3 ∧ Aside0 (timeboundref34_Leaf.l1 kq l1 x9_3 x10_1 l2_4 (l2_4.length : Int) x25_1 ((rd_T96 l0_1 ((rd_T109 l2_4 x25_1).f0)).f0) (((rd_T96 l0_1 ((rd_T109 l2_4 x25_1).f0)).f0).length : Int) x69_3 a0_0 l0_1 l0_2 a0_3 a2_0 a2_1 l2_2 a2_3 l2_4 a2_5 ((rd_T109 l2_4 x25_1).f0) ((rd_T109 l2_4 x25_1).f1) ((rd_T96 l0_1 ((rd_T109 l2_4 x25_1).f0)).f0) ((rd_T96 l0_1 ((rd_T109 l2_4 x25_1).f0)).f1) = some (r1, r2, r3)) ∧ Aside0 (kq ≤ kj15) ∧ Aside0 (Kd.R (Kd.int .i64) 3 w' w.heap.size (fun _ => True) v301 x9_3) ∧ Aside0 (w'.heap[gb298]? = some (.cells #[.int .i64 a0_0, (.slice (some ad306) l0_1.length c0_1), (.slice A0_2 l0_2.length c0_2), .int .i64 a0_3] 29 (0, 0))) ∧ Aside0 (w'.heap[gb299]? = some (.cells #[.int .i64 a2_0, .int .i64 a2_1, (.slice A2_2 l2_2.length c2_2), .int .i64 a2_3, (.slice (some ad303) l2_4.length c2_4), .int .i64 a2_5] 90 (0, 0))) ∧ Aside0 (w'.heap[gb304]? = some (.cells #[.int .i64 ((rd_T109 l2_4 x25_1).f0), .int .i64 ((rd_T109 l2_4 x25_1).f1)] 109 (0, 0))) ∧ Aside0 (w'.heap[gb305]? = some (.cells #[(.slice A306_0 ((rd_T96 l0_1 ((rd_T109 l2_4 x25_1).f0)).f0).length c306_0), .int .i64 ((rd_T96 l0_1 ((rd_T109 l2_4 x25_1).f0)).f1)] 96 (0, 0))) ∧ Aside0 (Below w.heap.size w w'))
                          case atStart => exact ⟨(x9_1), (0), (by first | rfl | (simp; done) | (simp [*]; done)), H', ⟨Nat.le_refl _⟩, ⟨by (with_reducible repeat (first | apply Kd.R_alloc | apply Kd.R_drewN | apply Kd.R_drew)); exact Kd.R_mono (Kd.R_far (p := ⟨gb305, 1, none⟩) (Kd.R_far (p := ⟨gb305, 0, none⟩) (Kd.R_types HO_9.out BK305.out (by decide)) (fun _ hk => hk.2) (.slice A306_0 ((rd_T96 l0_1 ((rd_T109 l2_4 x25_1).f0)).f0).length c306_0)) (fun _ hk => hk.2) (.int .i64 ((rd_T96 l0_1 ((rd_T109 l2_4 x25_1).f0)).f1))) (fun _ hk => trivial)⟩, ⟨by (with_reducible repeat (first | refine blk_drewN ?_ _ | refine blk_drew ?_ | refine blk_alloc ?_ _)); refine blk_far ?_ NB298_305.out _; (with_reducible repeat (first | refine blk_drewN ?_ _ | refine blk_drew ?_ | refine blk_alloc ?_ _)); refine blk_far ?_ NB298_305.out _; (with_reducible repeat (first | refine blk_drewN ?_ _ | refine blk_drew ?_ | refine blk_alloc ?_ _)); exact BK298.out⟩, ⟨by (with_reducible repeat (first | refine blk_drewN ?_ _ | refine blk_drew ?_ | refine blk_alloc ?_ _)); refine blk_far ?_ NB299_305.out _; (with_reducible repeat (first | refine blk_drewN ?_ _ | refine blk_drew ?_ | refine blk_alloc ?_ _)); refine blk_far ?_ NB299_305.out _; (with_reducible repeat (first | refine blk_drewN ?_ _ | refine blk_drew ?_ | refine blk_alloc ?_ _)); exact BK299.out⟩, ⟨by (with_reducible repeat (first | refine blk_drewN ?_ _ | refine blk_drew ?_ | refine blk_alloc ?_ _)); refine blk_far ?_ NB304_305.out _; (with_reducible repeat (first | refine blk_drewN ?_ _ | refine blk_drew ?_ | refine blk_alloc ?_ _)); refine blk_far ?_ NB304_305.out _; (with_reducible repeat (first | refine blk_drewN ?_ _ | refine blk_drew ?_ | refine blk_alloc ?_ _)); exact BK304.out⟩, ⟨by (with_reducible repeat (first | refine blk_drewN ?_ _ | refine blk_drew ?_ | refine blk_alloc ?_ _)); refine blk_put (cs := #[.slice A306_0 ((rd_T96 l0_1 ((rd_T109 l2_4 x25_1).f0)).f0).length c306_0, .int .i64 0]) ?_ 1 _ rfl; (with_reducible repeat (first | refine blk_drewN ?_ _ | refine blk_drew ?_ | refine blk_alloc ?_ _)); refine blk_put (cs := #[.slice none 0 0, .int .i64 0]) ?_ 0 _ rfl; (with_reducible repeat (first | refine blk_drewN ?_ _ | refine blk_drew ?_ | refine blk_alloc ?_ _)); exact BK305.out⟩, ⟨by repeat (first | (with_reducible first | exact HB.out | apply below_alloc | apply pw_below_drewN | apply below_drew1 | refine below_set ?_ GE298.out | refine below_set ?_ GE299.out | refine below_set ?_ GE304.out | refine below_set ?_ GE305.out) | exact HB.out)⟩⟩
                          case round =>
                            clear H'
                            try clear c1
                            try clear c2
                            try clear p2
                            try clear c3
                            try clear p3
                            try clear q3
                            try clear hx3
                            try clear c4
                            try clear c4b0
                            try clear c4b1
                            try clear c5
                            try clear c5b0
                            try clear c5b1
                            try clear p6
                            try clear c8
                            try clear c13
                            try clear c13b0
                            try clear c14
                            try clear c14b0
                            try clear c15
                            try clear c15b0
                            try clear c18
                            try clear c19
                            try clear c22
                            try clear c22b0
                            try clear c23
                            try clear c24
                            try clear c25
                            try clear c27
                            try clear c28
                            try clear c29
                            try clear c30
                            try clear p30
                            try clear q30
                            try clear hx30
                            try clear c31
                            try clear c32
                            try clear c34
                            try clear c35
                            try clear c35b0
                            try clear c36
                            try clear c36b0
                            try clear c37
                            try clear c38
                            try clear c39
                            try clear c41
                            try clear c42
                            try clear c44
                            try clear hcz12_0
                            try clear hcz12_1
                            try clear hcz12_2
                            try clear hcz12_3
                            try clear hcz12_4
                            try clear hcz12_5
                            try clear hcz20_0
                            try clear hcz20_1
                            try clear hcz26_0
                            try clear hcz26_1
                            try clear hcz30_0
                            try clear hcz30_1
                            try clear hcz33_0
                            try clear hcz33_1
                            try clear hcz33_2
                            try clear hcz33_3
                            try clear hcz40_0
                            try clear hcz40_1
                            try clear hcz43_0
                            try clear hcz43_1
                            try clear hcz43_2
                            try clear hcz43_3
                            try clear hcz45_0
                            try clear hcz45_1
                            try clear hcz9_0
                            try clear hcz9_1
                            try clear hcz9_2
                            try clear hcz9_3
                            try clear hfz12_0
                            try clear hfz12_1
                            try clear hfz12_2
                            try clear hfz12_3
                            try clear hfz12_4
                            try clear hfz12_5
                            try clear hfz20_0
                            try clear hfz20_1
                            try clear hfz26_0
                            try clear hfz26_1
                            try clear hfz30_0
                            try clear hfz30_1
                            try clear hfz33_0
                            try clear hfz33_1
                            try clear hfz33_2
                            try clear hfz33_3
                            try clear hfz40_0
                            try clear hfz40_1
                            try clear hfz43_0
                            try clear hfz43_1
                            try clear hfz43_2
                            try clear hfz43_3
                            try clear hfz45_0
                            try clear hfz45_1
                            try clear hfz9_0
                            try clear hfz9_1
                            try clear hfz9_2
                            try clear hfz9_3
                            try clear hx303_0
                            try clear hx303_1
                            try clear hx306_0
                            try clear hx306_1
                            try clear p2
                            try clear p3
                            try clear p30
                            try clear p303
                            try clear p306
                            try clear p6
                            try clear q3
                            try clear q30
                            try clear q303
                            try clear q306
                            obtain ⟨x9_3, x69_3, rfl, HA, HK3, HO_9, BK298, BK299, BK304, BK305, HB⟩ := hrel
                            cases gk with
                            | zero => exact absurd HA.out (by simp [timeboundref34_Leaf.l1])
                            | succ k3 =>
                              have H := HA.out
                              clear HA
                              simp only [timeboundref34_Leaf.l1] at H
                              by_cases c46 : x69_3 < (((rd_T96 l0_1 ((rd_T109 l2_4 x25_1).f0)).f0).length : Int)
                              · rw [if_pos c46] at H
                                have c46b0 : decide (x69_3 < (((rd_T96 l0_1 ((rd_T109 l2_4 x25_1).f0)).f0).length : Int)) = true := decide_eq_true c46
                                clear c46
                                by_cases c47 : 0 ≤ x69_3
                                · rw [if_pos c47] at H
                                  have c47b0 : decide (0 ≤ x69_3) = true := decide_eq_true c47
                                  clear c47
                                  by_cases c48 : x69_3 < (((rd_T96 l0_1 ((rd_T109 l2_4 x25_1).f0)).f0).length : Int)
                                  · rw [if_pos c48] at H
                                    have c48b0 : decide (x69_3 < (((rd_T96 l0_1 ((rd_T109 l2_4 x25_1).f0)).f0).length : Int)) = true := decide_eq_true c48
                                    clear c48
                                    by_cases c49 : 0 ≤ ((rd_T109 ((rd_T96 l0_1 ((rd_T109 l2_4 x25_1).f0)).f0) x69_3).f0)
                                    · rw [if_pos c49] at H
                                      have c49b0 : decide (0 ≤ ((rd_T109 ((rd_T96 l0_1 ((rd_T109 l2_4 x25_1).f0)).f0) x69_3).f0)) = true := decide_eq_true c49
                                      clear c49
                                      by_cases c50 : ((rd_T109 ((rd_T96 l0_1 ((rd_T109 l2_4 x25_1).f0)).f0) x69_3).f0) < (x9_3.length : Int)
                                      · rw [if_pos c50] at H
                                        have c50b0 : decide (((rd_T109 ((rd_T96 l0_1 ((rd_T109 l2_4 x25_1).f0)).f0) x69_3).f0) < (x9_3.length : Int)) = true := decide_eq_true c50
                                        clear c50
                                        obtain ⟨y310, hy310⟩ : ∃ y_ : List Int, y_ = (x9_3.set (((rd_T109 ((rd_T96 l0_1 ((rd_T109 l2_4 x25_1).f0)).f0) x69_3).f0) : Int).toNat (wrap64 ((rd x9_3 ((rd_T109 ((rd_T96 l0_1 ((rd_T109 l2_4 x25_1).f0)).f0) x69_3).f0)) + (wrap64 (((rd_T109 l2_4 x25_1).f1) * ((rd_T109 ((rd_T96 l0_1 ((rd_T109 l2_4 x25_1).f0)).f0) x69_3).f1)))))) := ⟨_, rfl⟩
                                        replace H : (timeboundref34_Leaf.l1 k3 l1 y310 x10_1 l2_4 (l2_4.length : Int) x25_1 ((rd_T96 l0_1 ((rd_T109 l2_4 x25_1).f0)).f0) (((rd_T96 l0_1 ((rd_T109 l2_4 x25_1).f0)).f0).length : Int) (wrap64 (x69_3 + 1)) a0_0 l0_1 l0_2 a0_3 a2_0 a2_1 l2_2 a2_3 l2_4 a2_5 ((rd_T109 l2_4 x25_1).f0) ((rd_T109 l2_4 x25_1).f1) ((rd_T96 l0_1 ((rd_T109 l2_4 x25_1).f0)).f0) ((rd_T96 l0_1 ((rd_T109 l2_4 x25_1).f0)).f1)) = some (r1, r2, r3) := by first | (rw [hy310]; with_reducible exact H) | (have H2_ := (Option.bind_some _ _).symm.trans H; rw [hy310]; with_reducible exact H2_) | (have H2_ := (Option.bind_some _ _).symm.trans H; with_reducible exact H2_) | with_reducible exact H | (rw [hy310]; exact H) | exact H
                                        have Ny310 := Aside0.mk hy310
                                        clear hy310
                                        have H' := Aside0.mk H
                                        clear H
                                        have p307 : 0 ≤ (x69_3 : Int) := of_decide_eq_true (by first | (with_reducible assumption) | assumption)
                                        have q307 : x69_3 < (((rd_T96 l0_1 ((rd_T109 l2_4 x25_1).f0)).f0).length : Int) := of_decide_eq_true (by first | (with_reducible assumption) | assumption)
                                        obtain ⟨ad307, e307, hx307_0, hx307_1⟩ := at_T109 HR306_0.out x69_3 p307 q307
                                        cases e307
                                        replace hx307_0 := (HB.out.cell (World.block_lt_of_cell? w _ hx307_0)).trans hx307_0
                                        replace hx307_1 := (HB.out.cell (World.block_lt_of_cell? w _ hx307_1)).trans hx307_1
                                        replace p307 := eq_true p307
                                        replace q307 := eq_true q307
                                        try go_wp2_with (first | ((with_reducible refine gate_dst (N := 15) rfl ?_); (try (refine gate_guard (by rfl) ?_; dsimp only)); refine box_event ?hg (N := 15) ?hd (cs := #[.int .i64 0, .int .i64 0]) (t := 109) ?hr ?_; (case hd => rfl); (case hg => rfl); (case hr => first | (go_simp; done) | (go_simp; rfl)); intro gb308 hg w52 hbox hb; have n0_ := Aside0.mk (Kd.R_below (by (with_reducible repeat (first | apply Kd.R_alloc | apply Kd.R_drewN | apply Kd.R_drew)); exact HO_9.out) hb); have n1_ := Aside0.mk (blk_below (g := gb298) (o := .cells #[.int .i64 a0_0, .slice (some ad306) l0_1.length c0_1, .slice A0_2 l0_2.length c0_2, .int .i64 a0_3] 29 (0, 0)) (by (with_reducible repeat (first | refine blk_drewN ?_ _ | refine blk_drew ?_ | refine blk_alloc ?_ _)); exact BK298.out) hb); have n2_ := Aside0.mk (blk_below (g := gb299) (o := .cells #[.int .i64 a2_0, .int .i64 a2_1, .slice A2_2 l2_2.length c2_2, .int .i64 a2_3, .slice (some ad303) l2_4.length c2_4, .int .i64 a2_5] 90 (0, 0)) (by (with_reducible repeat (first | refine blk_drewN ?_ _ | refine blk_drew ?_ | refine blk_alloc ?_ _)); exact BK299.out) hb); have n3_ := Aside0.mk (blk_below (g := gb304) (o := .cells #[.int .i64 ((rd_T109 l2_4 x25_1).f0), .int .i64 ((rd_T109 l2_4 x25_1).f1)] 109 (0, 0)) (by (with_reducible repeat (first | refine blk_drewN ?_ _ | refine blk_drew ?_ | refine blk_alloc ?_ _)); exact BK304.out) hb); have n4_ := Aside0.mk (blk_below (g := gb305) (o := .cells #[.slice (some ad307) ((rd_T96 l0_1 ((rd_T109 l2_4 x25_1).f0)).f0).length c306_0, .int .i64 ((rd_T96 l0_1 ((rd_T109 l2_4 x25_1).f0)).f1)] 96 (0, 0)) (by (with_reducible repeat (first | refine blk_drewN ?_ _ | refine blk_drew ?_ | refine blk_alloc ?_ _)); exact BK305.out) hb); have n5_ := Aside0.mk (below_step (by repeat (first | (with_reducible first | exact HB.out | apply below_alloc | apply pw_below_drewN | apply below_drew1 | refine below_set ?_ GE298.out | refine below_set ?_ GE299.out | refine below_set ?_ GE304.out | refine below_set ?_ GE305.out) | exact HB.out)) hb); have n6_ := Aside0.mk (hbox); have n7_ := Aside0.mk ((by rw [hg]; exact (below_size (by repeat (first | (with_reducible first | exact HB.out | apply below_alloc | apply pw_below_drewN | apply below_drew1 | refine below_set ?_ GE298.out | refine below_set ?_ GE299.out | refine below_set ?_ GE304.out | refine below_set ?_ GE305.out) | exact HB.out))) : w.heap.size ≤ gb308)); have n8_ := Aside0.mk ((by rw [hg]; exact (below_size (by repeat (first | (with_reducible first | exact HB.out | apply below_alloc | apply pw_below_drewN | apply below_drew1 | refine below_set ?_ GE298.out | refine below_set ?_ GE299.out | refine below_set ?_ GE304.out | refine below_set ?_ GE305.out) | exact HB.out))) : w.heap.size ≤ gb308)); have n9_ := Aside0.mk ((by rw [hg]; exact Nat.ne_of_lt (blk_lt (g := gb298) (o := .cells #[.int .i64 a0_0, .slice (some ad306) l0_1.length c0_1, .slice A0_2 l0_2.length c0_2, .int .i64 a0_3] 29 (0, 0)) (by (with_reducible repeat (first | refine blk_drewN ?_ _ | refine blk_drew ?_ | refine blk_alloc ?_ _)); exact BK298.out)) : gb298 ≠ gb308)); have n10_ := Aside0.mk ((by rw [hg]; exact Nat.ne_of_gt (blk_lt (g := gb298) (o := .cells #[.int .i64 a0_0, .slice (some ad306) l0_1.length c0_1, .slice A0_2 l0_2.length c0_2, .int .i64 a0_3] 29 (0, 0)) (by (with_reducible repeat (first | refine blk_drewN ?_ _ | refine blk_drew ?_ | refine blk_alloc ?_ _)); exact BK298.out)) : gb308 ≠ gb298)); have n11_ := Aside0.mk ((by rw [hg]; exact Nat.ne_of_lt (blk_lt (g := gb299) (o := .cells #[.int .i64 a2_0, .int .i64 a2_1, .slice A2_2 l2_2.length c2_2, .int .i64 a2_3, .slice (some ad303) l2_4.length c2_4, .int .i64 a2_5] 90 (0, 0)) (by (with_reducible repeat (first | refine blk_drewN ?_ _ | refine blk_drew ?_ | refine blk_alloc ?_ _)); exact BK299.out)) : gb299 ≠ gb308)); have n12_ := Aside0.mk ((by rw [hg]; exact Nat.ne_of_gt (blk_lt (g := gb299) (o := .cells #[.int .i64 a2_0, .int .i64 a2_1, .slice A2_2 l2_2.length c2_2, .int .i64 a2_3, .slice (some ad303) l2_4.length c2_4, .int .i64 a2_5] 90 (0, 0)) (by (with_reducible repeat (first | refine blk_drewN ?_ _ | refine blk_drew ?_ | refine blk_alloc ?_ _)); exact BK299.out)) : gb308 ≠ gb299)); have n13_ := Aside0.mk ((by rw [hg]; exact Nat.ne_of_lt (blk_lt (g := gb304) (o := .cells #[.int .i64 ((rd_T109 l2_4 x25_1).f0), .int .i64 ((rd_T109 l2_4 x25_1).f1)] 109 (0, 0)) (by (with_reducible repeat (first | refine blk_drewN ?_ _ | refine blk_drew ?_ | refine blk_alloc ?_ _)); exact BK304.out)) : gb304 ≠ gb308)); have n14_ := Aside0.mk ((by rw [hg]; exact Nat.ne_of_gt (blk_lt (g := gb304) (o := .cells #[.int .i64 ((rd_T109 l2_4 x25_1).f0), .int .i64 ((rd_T109 l2_4 x25_1).f1)] 109 (0, 0)) (by (with_reducible repeat (first | refine blk_drewN ?_ _ | refine blk_drew ?_ | refine blk_alloc ?_ _)); exact BK304.out)) : gb308 ≠ gb304)); have n15_ := Aside0.mk ((by rw [hg]; exact Nat.ne_of_lt (blk_lt (g := gb305) (o := .cells #[.slice (some ad307) ((rd_T96 l0_1 ((rd_T109 l2_4 x25_1).f0)).f0).length c306_0, .int .i64 ((rd_T96 l0_1 ((rd_T109 l2_4 x25_1).f0)).f1)] 96 (0, 0)) (by (with_reducible repeat (first | refine blk_drewN ?_ _ | refine blk_drew ?_ | refine blk_alloc ?_ _)); exact BK305.out)) : gb305 ≠ gb308)); have n16_ := Aside0.mk ((by rw [hg]; exact Nat.ne_of_gt (blk_lt (g := gb305) (o := .cells #[.slice (some ad307) ((rd_T96 l0_1 ((rd_T109 l2_4 x25_1).f0)).f0).length c306_0, .int .i64 ((rd_T96 l0_1 ((rd_T109 l2_4 x25_1).f0)).f1)] 96 (0, 0)) (by (with_reducible repeat (first | refine blk_drewN ?_ _ | refine blk_drew ?_ | refine blk_alloc ?_ _)); exact BK305.out)) : gb308 ≠ gb305)); clear HO_9; clear BK298; clear BK299; clear BK304; clear BK305; clear HB; have HO_9 := n0_; have BK298 := n1_; have BK299 := n2_; have BK304 := n3_; have BK305 := n4_; have HB := n5_; have BK308 := n6_; have GW308 := n7_; have GE308 := n8_; have NB298_308 := n9_; have NB308_298 := n10_; have NB299_308 := n11_; have NB308_299 := n12_; have NB304_308 := n13_; have NB308_304 := n14_; have NB305_308 := n15_; have NB308_305 := n16_; clear n0_ n1_ n2_ n3_ n4_ n5_ n6_ n7_ n8_ n9_ n10_ n11_ n12_ n13_ n14_ n15_ n16_; clear hb hbox hg; have hnb53 := NB308_298.out; have hnc53 := NB298_308.out; have hnb54 := NB308_299.out; have hnc54 := NB299_308.out; have hnb55 := NB308_304.out; have hnc55 := NB304_308.out; have hnb56 := NB308_305.out; have hnc56 := NB305_308.out; have hcz57_0 : w52.cell? ⟨gb308, 0, none⟩ = some (.int .i64 0) := (blk_cell BK308.out 0).trans rfl; have hcz57_1 : w52.cell? ⟨gb308, 1, none⟩ = some (.int .i64 0) := (blk_cell BK308.out 1).trans rfl; have hfz57_0 := blk_frozen BK308.out 0; have hfz57_1 := blk_frozen BK308.out 1))
                                        have n0_ : Aside0 (Kd.R (Kd.int .i64) 3 ((w52.setCell ⟨gb308, 0, none⟩ (.int .i64 ((rd_T109 ((rd_T96 l0_1 ((rd_T109 l2_4 x25_1).f0)).f0) x69_3).f0))).setCell ⟨gb308, 1, none⟩ (.int .i64 ((rd_T109 ((rd_T96 l0_1 ((rd_T109 l2_4 x25_1).f0)).f0) x69_3).f1))) w.heap.size (fun _ => True) v301 x9_3) := ⟨by (with_reducible repeat (first | apply Kd.R_alloc | apply Kd.R_drewN | apply Kd.R_drew)); exact Kd.R_mono (Kd.R_far (p := ⟨gb308, 1, none⟩) (Kd.R_far (p := ⟨gb308, 0, none⟩) (Kd.R_types HO_9.out BK308.out (by decide)) (fun _ hk => hk.2) (.int .i64 ((rd_T109 ((rd_T96 l0_1 ((rd_T109 l2_4 x25_1).f0)).f0) x69_3).f0))) (fun _ hk => hk.2) (.int .i64 ((rd_T109 ((rd_T96 l0_1 ((rd_T109 l2_4 x25_1).f0)).f0) x69_3).f1))) (fun _ hk => trivial)⟩
                                        have n1_ : Aside0 (((w52.setCell ⟨gb308, 0, none⟩ (.int .i64 ((rd_T109 ((rd_T96 l0_1 ((rd_T109 l2_4 x25_1).f0)).f0) x69_3).f0))).setCell ⟨gb308, 1, none⟩ (.int .i64 ((rd_T109 ((rd_T96 l0_1 ((rd_T109 l2_4 x25_1).f0)).f0) x69_3).f1))).heap[gb298]? = some (.cells #[.int .i64 a0_0, .slice (some ad306) l0_1.length c0_1, .slice A0_2 l0_2.length c0_2, .int .i64 a0_3] 29 (0, 0))) := ⟨by (with_reducible repeat (first | refine blk_drewN ?_ _ | refine blk_drew ?_ | refine blk_alloc ?_ _)); refine blk_far ?_ NB298_308.out _; (with_reducible repeat (first | refine blk_drewN ?_ _ | refine blk_drew ?_ | refine blk_alloc ?_ _)); refine blk_far ?_ NB298_308.out _; (with_reducible repeat (first | refine blk_drewN ?_ _ | refine blk_drew ?_ | refine blk_alloc ?_ _)); exact BK298.out⟩
                                        have n2_ : Aside0 (((w52.setCell ⟨gb308, 0, none⟩ (.int .i64 ((rd_T109 ((rd_T96 l0_1 ((rd_T109 l2_4 x25_1).f0)).f0) x69_3).f0))).setCell ⟨gb308, 1, none⟩ (.int .i64 ((rd_T109 ((rd_T96 l0_1 ((rd_T109 l2_4 x25_1).f0)).f0) x69_3).f1))).heap[gb299]? = some (.cells #[.int .i64 a2_0, .int .i64 a2_1, .slice A2_2 l2_2.length c2_2, .int .i64 a2_3, .slice (some ad303) l2_4.length c2_4, .int .i64 a2_5] 90 (0, 0))) := ⟨by (with_reducible repeat (first | refine blk_drewN ?_ _ | refine blk_drew ?_ | refine blk_alloc ?_ _)); refine blk_far ?_ NB299_308.out _; (with_reducible repeat (first | refine blk_drewN ?_ _ | refine blk_drew ?_ | refine blk_alloc ?_ _)); refine blk_far ?_ NB299_308.out _; (with_reducible repeat (first | refine blk_drewN ?_ _ | refine blk_drew ?_ | refine blk_alloc ?_ _)); exact BK299.out⟩
                                        have n3_ : Aside0 (((w52.setCell ⟨gb308, 0, none⟩ (.int .i64 ((rd_T109 ((rd_T96 l0_1 ((rd_T109 l2_4 x25_1).f0)).f0) x69_3).f0))).setCell ⟨gb308, 1, none⟩ (.int .i64 ((rd_T109 ((rd_T96 l0_1 ((rd_T109 l2_4 x25_1).f0)).f0) x69_3).f1))).heap[gb304]? = some (.cells #[.int .i64 ((rd_T109 l2_4 x25_1).f0), .int .i64 ((rd_T109 l2_4 x25_1).f1)] 109 (0, 0))) := ⟨by (with_reducible repeat (first | refine blk_drewN ?_ _ | refine blk_drew ?_ | refine blk_alloc ?_ _)); refine blk_far ?_ NB304_308.out _; (with_reducible repeat (first | refine blk_drewN ?_ _ | refine blk_drew ?_ | refine blk_alloc ?_ _)); refine blk_far ?_ NB304_308.out _; (with_reducible repeat (first | refine blk_drewN ?_ _ | refine blk_drew ?_ | refine blk_alloc ?_ _)); exact BK304.out⟩
                                        have n4_ : Aside0 (((w52.setCell ⟨gb308, 0, none⟩ (.int .i64 ((rd_T109 ((rd_T96 l0_1 ((rd_T109 l2_4 x25_1).f0)).f0) x69_3).f0))).setCell ⟨gb308, 1, none⟩ (.int .i64 ((rd_T109 ((rd_T96 l0_1 ((rd_T109 l2_4 x25_1).f0)).f0) x69_3).f1))).heap[gb305]? = some (.cells #[.slice (some ad307) ((rd_T96 l0_1 ((rd_T109 l2_4 x25_1).f0)).f0).length c306_0, .int .i64 ((rd_T96 l0_1 ((rd_T109 l2_4 x25_1).f0)).f1)] 96 (0, 0))) := ⟨by (with_reducible repeat (first | refine blk_drewN ?_ _ | refine blk_drew ?_ | refine blk_alloc ?_ _)); refine blk_far ?_ NB305_308.out _; (with_reducible repeat (first | refine blk_drewN ?_ _ | refine blk_drew ?_ | refine blk_alloc ?_ _)); refine blk_far ?_ NB305_308.out _; (with_reducible repeat (first | refine blk_drewN ?_ _ | refine blk_drew ?_ | refine blk_alloc ?_ _)); exact BK305.out⟩
                                        have n5_ : Aside0 (((w52.setCell ⟨gb308, 0, none⟩ (.int .i64 ((rd_T109 ((rd_T96 l0_1 ((rd_T109 l2_4 x25_1).f0)).f0) x69_3).f0))).setCell ⟨gb308, 1, none⟩ (.int .i64 ((rd_T109 ((rd_T96 l0_1 ((rd_T109 l2_4 x25_1).f0)).f0) x69_3).f1))).heap[gb308]? = some (.cells #[.int .i64 ((rd_T109 ((rd_T96 l0_1 ((rd_T109 l2_4 x25_1).f0)).f0) x69_3).f0), .int .i64 ((rd_T109 ((rd_T96 l0_1 ((rd_T109 l2_4 x25_1).f0)).f0) x69_3).f1)] 109 (0, 0))) := ⟨by (with_reducible repeat (first | refine blk_drewN ?_ _ | refine blk_drew ?_ | refine blk_alloc ?_ _)); refine blk_put (cs := #[.int .i64 ((rd_T109 ((rd_T96 l0_1 ((rd_T109 l2_4 x25_1).f0)).f0) x69_3).f0), .int .i64 0]) ?_ 1 _ rfl; (with_reducible repeat (first | refine blk_drewN ?_ _ | refine blk_drew ?_ | refine blk_alloc ?_ _)); refine blk_put (cs := #[.int .i64 0, .int .i64 0]) ?_ 0 _ rfl; (with_reducible repeat (first | refine blk_drewN ?_ _ | refine blk_drew ?_ | refine blk_alloc ?_ _)); exact BK308.out⟩
                                        have n6_ : Aside0 (Below w.heap.size w ((w52.setCell ⟨gb308, 0, none⟩ (.int .i64 ((rd_T109 ((rd_T96 l0_1 ((rd_T109 l2_4 x25_1).f0)).f0) x69_3).f0))).setCell ⟨gb308, 1, none⟩ (.int .i64 ((rd_T109 ((rd_T96 l0_1 ((rd_T109 l2_4 x25_1).f0)).f0) x69_3).f1)))) := ⟨by repeat (first | (with_reducible first | exact HB.out | apply below_alloc | apply pw_below_drewN | apply below_drew1 | refine below_set ?_ GE298.out | refine below_set ?_ GE299.out | refine below_set ?_ GE304.out | refine below_set ?_ GE305.out | refine below_set ?_ GE308.out) | exact HB.out)⟩
                                        (try clear HO_9)
                                        (try clear BK298)
                                        (try clear BK299)
                                        (try clear BK304)
                                        (try clear BK305)
                                        (try clear BK308)
                                        (try clear HB)
                                        generalize ((w52.setCell ⟨gb308, 0, none⟩ (.int .i64 ((rd_T109 ((rd_T96 l0_1 ((rd_T109 l2_4 x25_1).f0)).f0) x69_3).f0))).setCell ⟨gb308, 1, none⟩ (.int .i64 ((rd_T109 ((rd_T96 l0_1 ((rd_T109 l2_4 x25_1).f0)).f0) x69_3).f1))) = w58 at n0_ n1_ n2_ n3_ n4_ n5_ n6_ ⊢
                                        have HO_9 := n0_
                                        have BK298 := n1_
                                        have BK299 := n2_
                                        have BK304 := n3_
                                        have BK305 := n4_
                                        have BK308 := n5_
                                        have HB := n6_
                                        clear n0_ n1_ n2_ n3_ n4_ n5_ n6_
                                        have n0_ := Aside0.mk (Kd.R_drew HO_9.out)
                                        have n1_ := Aside0.mk (blk_drew BK298.out)
                                        have n2_ := Aside0.mk (blk_drew BK299.out)
                                        have n3_ := Aside0.mk (blk_drew BK304.out)
                                        have n4_ := Aside0.mk (blk_drew BK305.out)
                                        have n5_ := Aside0.mk (blk_drew BK308.out)
                                        have n6_ := Aside0.mk (below_drew1 HB.out)
                                        clear HO_9
                                        clear BK298
                                        clear BK299
                                        clear BK304
                                        clear BK305
                                        clear BK308
                                        clear HB
                                        have HO_9 := n0_
                                        have BK298 := n1_
                                        have BK299 := n2_
                                        have BK304 := n3_
                                        have BK305 := n4_
                                        have BK308 := n5_
                                        have HB := n6_
                                        clear n0_ n1_ n2_ n3_ n4_ n5_ n6_
                                        obtain ⟨Ao60, co60, eo60⟩ := Kd.R_slice HO_9.out
                                        (first | subst eo60 | (injection eo60 with f1_ f2_ f3_; have f4_ := f1_.symm; have f5_ := f3_.symm; clear f1_ f2_ f3_; subst f4_; subst f5_))
                                        have p309 : 0 ≤ (((rd_T109 ((rd_T96 l0_1 ((rd_T109 l2_4 x25_1).f0)).f0) x69_3).f0) : Int) := of_decide_eq_true (by first | (with_reducible assumption) | assumption)
                                        have q309 : ((rd_T109 ((rd_T96 l0_1 ((rd_T109 l2_4 x25_1).f0)).f0) x69_3).f0) < (x9_3.length : Int) := of_decide_eq_true (by first | (with_reducible assumption) | assumption)
                                        obtain ⟨ad309, e309, hx309_0⟩ := Kd.at_int (Kd.R_reads' HO_9.out).2.2 ((rd_T109 ((rd_T96 l0_1 ((rd_T109 l2_4 x25_1).f0)).f0) x69_3).f0) p309 q309
                                        cases e309
                                        replace p309 := eq_true p309
                                        replace q309 := eq_true q309
                                        have p51 : 0 ≤ (((rd_T109 ((rd_T96 l0_1 ((rd_T109 l2_4 x25_1).f0)).f0) x69_3).f0) : Int) := of_decide_eq_true (by first | (with_reducible assumption) | assumption)
                                        have q51 : (((rd_T109 ((rd_T96 l0_1 ((rd_T109 l2_4 x25_1).f0)).f0) x69_3).f0) : Int) < ((x9_3.length : Int) : Int) := of_decide_eq_true (by first | (with_reducible assumption) | assumption)
                                        obtain ⟨go51, co51, eo51, gb51, gl51, cl51, HG51⟩ := Kd.R_form HO_9.out (by omega)
                                        (first | cases eo51 | (injection eo51 with ea_ en_ ec_; (first | subst ea_ | (injection ea_ with ea_; subst ea_)); subst ec_; clear en_))
                                        have GB51 := Aside0.mk gb51
                                        have GG51 := Aside0.mk HG51
                                        clear gb51 gl51 HG51
                                        (first | simp only [add_plain] at hx309_0 | skip)
                                        obtain ⟨hx51_0, hf51_0⟩ := Kd.R_celln 0 HO_9.out (((rd_T109 ((rd_T96 l0_1 ((rd_T109 l2_4 x25_1).f0)).f0) x69_3).f0) : Int) p51 q51
                                        replace p51 := eq_true p51
                                        replace q51 := eq_true q51
                                        have HP61 := Kd.R_putn HO_9.out (((rd_T109 ((rd_T96 l0_1 ((rd_T109 l2_4 x25_1).f0)).f0) x69_3).f0) : Int) (wrap64 ((rd x9_3 ((rd_T109 ((rd_T96 l0_1 ((rd_T109 l2_4 x25_1).f0)).f0) x69_3).f0)) + (wrap64 (((rd_T109 l2_4 x25_1).f1) * ((rd_T109 ((rd_T96 l0_1 ((rd_T109 l2_4 x25_1).f0)).f0) x69_3).f1)))))
                                        rw [← Ny310.out] at HP61
                                        have HQ61 := Aside0.mk HP61
                                        clear HP61
                                        refine start_ (n := 13) (S := fun w' => w'.cell? ⟨gb308, 0, none⟩ = some (.int .i64 ((rd_T109 ((rd_T96 l0_1 ((rd_T109 l2_4 x25_1).f0)).f0) x69_3).f0)) ∧ w'.cell? ⟨gb308, 1, none⟩ = some (.int .i64 ((rd_T109 ((rd_T96 l0_1 ((rd_T109 l2_4 x25_1).f0)).f0) x69_3).f1)) ∧ w'.cell? ⟨gb304, 0, none⟩ = some (.int .i64 ((rd_T109 l2_4 x25_1).f0)) ∧ w'.cell? ⟨gb304, 1, none⟩ = some (.int .i64 ((rd_T109 l2_4 x25_1).f1)) ∧ w'.cell? ⟨go51, (((rd_T109 ((rd_T96 l0_1 ((rd_T109 l2_4 x25_1).f0)).f0) x69_3).f0)).toNat, none⟩ = some (.int .i64 (rd x9_3 ((rd_T109 ((rd_T96 l0_1 ((rd_T109 l2_4 x25_1).f0)).f0) x69_3).f0)))) (ds := [12]) #[false, false, false, false, false, false, false, false, false, false, false, false, false] (by kernel_rfl) rfl rfl ⟨(blk_cell BK308.out 0).trans rfl, (blk_cell BK308.out 1).trans rfl, (blk_cell BK304.out 0).trans rfl, (blk_cell BK304.out 1).trans rfl, hx309_0⟩ (fun hHeld => ?_); refine with_tabW timeboundref34_Leaf.tab15 timeboundref34_Leaf.bits15 (fun HT_ HW_ => ?_)
                                        generalize w58.drew = w59 at HO_9 BK298 BK299 BK304 BK305 BK308 HB GG51 HQ61 hf51_0 hx309_0 hx51_0 hHeld ⊢
                                        refine pure_ (i := 0) (N := some 73) (v := ?_) (a' := ?_) #[true, false, false, false, false, false, false, false, false, false, false, false, false] rfl rfl (any_of HT_.out (by kernel_rfl)) (fun _ _ _ h => h) (Or.inl ⟨by rfl, ?_⟩) ?_ ?_
                                        rotate_left
                                        · intro w'
                                          go_simp
                                          with_reducible rfl
                                        rotate_left
                                        · simp only [Act.put, List.setIfInBounds_toArray, List.set_cons_zero, List.set_cons_succ, i64_w, i32_w]
                                          rfl
                                        refine pure_ (i := 1) (N := some 74) (v := ?_) (a' := ?_) #[true, true, false, false, false, false, false, false, false, false, false, false, false] rfl rfl (any_of HT_.out (by kernel_rfl)) (fun _ _ _ h => h) (Or.inl ⟨by rfl, ?_⟩) ?_ ?_
                                        rotate_left
                                        · intro w'
                                          go_simp
                                          with_reducible rfl
                                        rotate_left
                                        · simp only [Act.put, List.setIfInBounds_toArray, List.set_cons_zero, List.set_cons_succ, i64_w, i32_w]
                                          rfl
                                        refine pure_ (i := 5) (N := some 78) (v := ?_) (a' := ?_) #[true, true, false, false, false, true, false, false, false, false, false, false, false] rfl rfl (any_of HT_.out (by kernel_rfl)) (fun _ _ _ h => h) (Or.inl ⟨by rfl, ?_⟩) ?_ ?_
                                        rotate_left
                                        · intro w'
                                          go_simp
                                          with_reducible rfl
                                        rotate_left
                                        · simp only [Act.put, List.setIfInBounds_toArray, List.set_cons_zero, List.set_cons_succ, i64_w, i32_w]
                                          rfl
                                        refine pure_ (i := 7) (N := some 80) (v := ?_) (a' := ?_) #[true, true, false, false, false, true, false, true, false, false, false, false, false] rfl rfl (any_of HT_.out (by kernel_rfl)) (fun _ _ _ h => h) (Or.inl ⟨by rfl, ?_⟩) ?_ ?_
                                        rotate_left
                                        · intro w'
                                          go_simp
                                          with_reducible rfl
                                        rotate_left
                                        · simp only [Act.put, List.setIfInBounds_toArray, List.set_cons_zero, List.set_cons_succ, i64_w, i32_w]
                                          rfl
                                        refine take_ (i := 2) (N := some 75) (v := ?_) (a' := ?_) #[true, true, true, false, false, true, false, true, false, false, false, false, false] rfl rfl (take_ofW HT_.out HW_.out (by kernel_rfl)) (fun _ _ _ h => h) (Or.inl ⟨by rfl, ?_⟩) hHeld ?_ ?_
                                        rotate_left
                                        · rintro w' ⟨s0, s1, s2, s3, s4⟩
                                          go_simp
                                          with_reducible rfl
                                        rotate_left
                                        · simp only [Act.put, List.setIfInBounds_toArray, List.set_cons_zero, List.set_cons_succ, i64_w, i32_w]
                                          rfl
                                        refine pure_ (i := 3) (N := some 76) (v := ?_) (a' := ?_) #[true, true, true, true, false, true, false, true, false, false, false, false, false] rfl rfl (any_of HT_.out (by kernel_rfl)) (fun _ _ _ h => h) (Or.inl ⟨by rfl, ?_⟩) ?_ ?_
                                        rotate_left
                                        · intro w'
                                          go_simp
                                          with_reducible rfl
                                        rotate_left
                                        · simp only [Act.put, List.setIfInBounds_toArray, List.set_cons_zero, List.set_cons_succ, i64_w, i32_w]
                                          rfl
                                        refine take_ (i := 4) (N := some 77) (v := ?_) (a' := ?_) #[true, true, true, true, true, true, false, true, false, false, false, false, false] rfl rfl (take_ofW HT_.out HW_.out (by kernel_rfl)) (fun _ _ _ h => h) (Or.inl ⟨by rfl, ?_⟩) hHeld ?_ ?_
                                        rotate_left
                                        · rintro w' ⟨s0, s1, s2, s3, s4⟩
                                          go_simp
                                          with_reducible rfl
                                        rotate_left
                                        · simp only [Act.put, List.setIfInBounds_toArray, List.set_cons_zero, List.set_cons_succ, i64_w, i32_w]
                                          rfl
                                        refine take_ (i := 6) (N := some 79) (v := ?_) (a' := ?_) #[true, true, true, true, true, true, true, true, false, false, false, false, false] rfl rfl (take_ofW HT_.out HW_.out (by kernel_rfl)) (fun _ _ _ h => h) (Or.inl ⟨by rfl, ?_⟩) hHeld ?_ ?_
                                        rotate_left
                                        · rintro w' ⟨s0, s1, s2, s3, s4⟩
                                          go_simp
                                          with_reducible rfl
                                        rotate_left
                                        · simp only [Act.put, List.setIfInBounds_toArray, List.set_cons_zero, List.set_cons_succ, i64_w, i32_w]
                                          rfl
                                        refine take_ (i := 8) (N := some 81) (v := ?_) (a' := ?_) #[true, true, true, true, true, true, true, true, true, false, false, false, false] rfl rfl (take_ofW HT_.out HW_.out (by kernel_rfl)) (fun _ _ _ h => h) (Or.inl ⟨by rfl, ?_⟩) hHeld ?_ ?_
                                        rotate_left
                                        · rintro w' ⟨s0, s1, s2, s3, s4⟩
                                          go_simp
                                          with_reducible rfl
                                        rotate_left
                                        · simp only [Act.put, List.setIfInBounds_toArray, List.set_cons_zero, List.set_cons_succ, i64_w, i32_w]
                                          rfl
                                        refine pure_ (i := 9) (N := some 82) (v := ?_) (a' := ?_) #[true, true, true, true, true, true, true, true, true, true, false, false, false] rfl rfl (any_of HT_.out (by kernel_rfl)) (fun _ _ _ h => h) (Or.inl ⟨by rfl, ?_⟩) ?_ ?_
                                        rotate_left
                                        · intro w'
                                          go_simp
                                          with_reducible rfl
                                        rotate_left
                                        · simp only [Act.put, List.setIfInBounds_toArray, List.set_cons_zero, List.set_cons_succ, i64_w, i32_w]
                                          rfl
                                        refine pure_ (i := 10) (N := some 83) (v := ?_) (a' := ?_) #[true, true, true, true, true, true, true, true, true, true, true, false, false] rfl rfl (any_of HT_.out (by kernel_rfl)) (fun _ _ _ h => h) (Or.inl ⟨by rfl, ?_⟩) ?_ ?_
                                        rotate_left
                                        · intro w'
                                          go_simp
                                          with_reducible rfl
                                        rotate_left
                                        · simp only [Act.put, List.setIfInBounds_toArray, List.set_cons_zero, List.set_cons_succ, i64_w, i32_w]
                                          rfl
                                        refine pure_ (i := 11) (N := some 84) (v := ?_) (a' := ?_) #[true, true, true, true, true, true, true, true, true, true, true, true, false] rfl rfl (any_of HT_.out (by kernel_rfl)) (fun _ _ _ h => h) (Or.inl ⟨by rfl, ?_⟩) ?_ ?_
                                        rotate_left
                                        · intro w'
                                          go_simp
                                          with_reducible rfl
                                        rotate_left
                                        · simp only [Act.put, List.setIfInBounds_toArray, List.set_cons_zero, List.set_cons_succ, i64_w, i32_w]
                                          rfl
                                        refine last_ (i := 12) (N := none) #[true, true, true, true, true, true, true, true, true, true, true, true, true] rfl rfl (one_of HT_.out (by kernel_rfl)) (by decide) (fun K hK => ?_)
                                        refine skip_ (w1 := ?_) (by rfl) rfl ?_ ?_
                                        rotate_left
                                        · go_simp
                                          rfl
                                        refine hK.out _ _ ?_
                                        clear hK K
                                        refine done_ (done_of HT_.out (by kernel_rfl)) ?_
                                        try go_wp2
                                        go_roundg k3
                                        case measure => have := HK1.out; have := HJ15.out; have := HK3.out; omega
                                        case rel => exact ⟨(y310), (wrap64 (x69_3 + 1)), (by first | rfl | (simp; done) | (simp [*]; done)), H', ⟨by have := HK1.out; have := HJ15.out; have := HK3.out; omega⟩, ⟨by (with_reducible repeat (first | apply Kd.R_alloc | apply Kd.R_drewN | apply Kd.R_drew)); exact HQ61.out⟩, ⟨by (with_reducible repeat (first | refine blk_drewN ?_ _ | refine blk_drew ?_ | refine blk_alloc ?_ _)); refine blk_far ?_ (by have h_ := Kd.R_ne HO_9.out BK298.out (by decide); intro e_; exact h_ (by rw [e_]; rfl)) _; (with_reducible repeat (first | refine blk_drewN ?_ _ | refine blk_drew ?_ | refine blk_alloc ?_ _)); exact BK298.out⟩, ⟨by (with_reducible repeat (first | refine blk_drewN ?_ _ | refine blk_drew ?_ | refine blk_alloc ?_ _)); refine blk_far ?_ (by have h_ := Kd.R_ne HO_9.out BK299.out (by decide); intro e_; exact h_ (by rw [e_]; rfl)) _; (with_reducible repeat (first | refine blk_drewN ?_ _ | refine blk_drew ?_ | refine blk_alloc ?_ _)); exact BK299.out⟩, ⟨by (with_reducible repeat (first | refine blk_drewN ?_ _ | refine blk_drew ?_ | refine blk_alloc ?_ _)); refine blk_far ?_ (by have h_ := Kd.R_ne HO_9.out BK304.out (by decide); intro e_; exact h_ (by rw [e_]; rfl)) _; (with_reducible repeat (first | refine blk_drewN ?_ _ | refine blk_drew ?_ | refine blk_alloc ?_ _)); exact BK304.out⟩, ⟨by (with_reducible repeat (first | refine blk_drewN ?_ _ | refine blk_drew ?_ | refine blk_alloc ?_ _)); refine blk_far ?_ (by have h_ := Kd.R_ne HO_9.out BK305.out (by decide); intro e_; exact h_ (by rw [e_]; rfl)) _; (with_reducible repeat (first | refine blk_drewN ?_ _ | refine blk_drew ?_ | refine blk_alloc ?_ _)); exact BK305.out⟩, ⟨by repeat (first | (with_reducible first | exact HB.out | apply below_alloc | apply pw_below_drewN | apply below_drew1 | refine below_set ?_ GB51.out | refine below_set ?_ GE298.out | refine below_set ?_ GE299.out | refine below_set ?_ GE304.out | refine below_set ?_ GE305.out | refine below_set ?_ GE308.out) | exact HB.out)⟩⟩
                                      · rw [if_neg c50] at H
                                        exact absurd H (by simp)
                                    · rw [if_neg c49] at H
                                      exact absurd H (by simp)
                                  · rw [if_neg c48] at H
                                    exact absurd H (by simp)
                                · rw [if_neg c47] at H
                                  exact absurd H (by simp)
                              · rw [if_neg c46] at H
                                have c46b0 : decide (x69_3 < (((rd_T96 l0_1 ((rd_T109 l2_4 x25_1).f0)).f0).length : Int)) = false := decide_eq_false c46
                                clear c46
                                have H' := Aside0.mk H
                                clear H
                                have hnb62 := NB304_298.out
                                have hnc62 := NB298_304.out
                                have hnb63 := NB304_299.out
                                have hnc63 := NB299_304.out
                                have hnb64 := NB304_305.out
                                have hnc64 := NB305_304.out
                                have hcz65_0 : wr.cell? ⟨gb304, 0, none⟩ = some (.int .i64 ((rd_T109 l2_4 x25_1).f0)) := (blk_cell BK304.out 0).trans rfl
                                have hcz65_1 : wr.cell? ⟨gb304, 1, none⟩ = some (.int .i64 ((rd_T109 l2_4 x25_1).f1)) := (blk_cell BK304.out 1).trans rfl
                                have hfz65_0 := blk_frozen BK304.out 0
                                have hfz65_1 := blk_frozen BK304.out 1
                                have hnb66 := NB305_298.out
                                have hnc66 := NB298_305.out
                                have hnb67 := NB305_299.out
                                have hnc67 := NB299_305.out
                                have hcz68_0 : wr.cell? ⟨gb305, 0, none⟩ = some (.slice A306_0 ((rd_T96 l0_1 ((rd_T109 l2_4 x25_1).f0)).f0).length c306_0) := (blk_cell BK305.out 0).trans rfl
                                have hcz68_1 : wr.cell? ⟨gb305, 1, none⟩ = some (.int .i64 ((rd_T96 l0_1 ((rd_T109 l2_4 x25_1).f0)).f1)) := (blk_cell BK305.out 1).trans rfl
                                have hfz68_0 := blk_frozen BK305.out 0
                                have hfz68_1 := blk_frozen BK305.out 1
                                go_wp2
                                go_roundg k3
                                case measure => have := HK1.out; have := HJ15.out; have := HK3.out; omega
                                case rel => exact ⟨(x9_3), (wrap64 (x10_1 + (wrap64 (((rd_T109 l2_4 x25_1).f1) * ((rd_T96 l0_1 ((rd_T109 l2_4 x25_1).f0)).f1))))), (wrap64 (x25_1 + 1)), (by first | rfl | (simp; done) | (simp [*]; done)), (by first | rfl | (simp; done) | (simp [*]; done)), H', ⟨by have := HK1.out; have := HJ15.out; have := HK3.out; omega⟩, ⟨by (with_reducible repeat (first | apply Kd.R_alloc | apply Kd.R_drewN | apply Kd.R_drew)); exact HO_9.out⟩, ⟨by (with_reducible repeat (first | refine blk_drewN ?_ _ | refine blk_drew ?_ | refine blk_alloc ?_ _)); exact BK298.out⟩, ⟨by (with_reducible repeat (first | refine blk_drewN ?_ _ | refine blk_drew ?_ | refine blk_alloc ?_ _)); exact BK299.out⟩, ⟨by repeat (first | (with_reducible first | exact HB.out | apply below_alloc | apply pw_below_drewN | apply below_drew1 | refine below_set ?_ GE298.out | refine below_set ?_ GE299.out | refine below_set ?_ GE304.out | refine below_set ?_ GE305.out) | exact HB.out)⟩⟩
                        · rw [if_neg c36] at H
                          exact absurd H (by simp)
                      · rw [if_neg c35] at H
                        exact absurd H (by simp)
              · rw [if_neg c15] at H
                exact absurd H (by simp)
            · rw [if_neg c14] at H
              exact absurd H (by simp)
          · rw [if_neg c13] at H
            have c13b0 : decide (x25_1 < (l2_4.length : Int)) = false := decide_eq_false c13
            clear c13
            have H' := Aside0.mk H
            clear H
            obtain ⟨Ao69, co69, eo69⟩ := Kd.R_slice HO_9.out
            subst eo69
            go_wp2
            go_loopg [96] k1 (fun kq v96 w' => ∃ (x96_2 : Int), v96 = .int .i64 x96_2 ∧ Aside0 (timeboundref34_Leaf.l2 kq x10_1 x9_1 (x9_1.length : Int) x96_2 a0_0 l0_1 l0_2 a0_3 a2_0 a2_1 l2_2 a2_3 l2_4 a2_5 = some (r1, r2, r3)) ∧ Aside0 (kq ≤ k1) ∧ Aside0 (Kd.R (Kd.int .i64) 3 w' w.heap.size (fun _ => True) (.slice Ao69 x9_1.length co69) x9_1) ∧ Aside0 (w'.heap[gb298]? = some (.cells #[.int .i64 a0_0, (.slice A0_1 l0_1.length c0_1), (.slice A0_2 l0_2.length c0_2), .int .i64 a0_3] 29 (0, 0))) ∧ Aside0 (w'.heap[gb299]? = some (.cells #[.int .i64 a2_0, .int .i64 a2_1, (.slice A2_2 l2_2.length c2_2), .int .i64 a2_3, (.slice A2_4 l2_4.length c2_4), .int .i64 a2_5] 90 (0, 0))) ∧ Aside0 (Below w.heap.size w w'))
            case atStart => exact ⟨(0), (by first | rfl | (simp; done) | (simp [*]; done)), H', ⟨Nat.le_refl _⟩, ⟨by (with_reducible repeat (first | apply Kd.R_alloc | apply Kd.R_drewN | apply Kd.R_drew)); exact HO_9.out⟩, ⟨by (with_reducible repeat (first | refine blk_drewN ?_ _ | refine blk_drew ?_ | refine blk_alloc ?_ _)); exact BK298.out⟩, ⟨by (with_reducible repeat (first | refine blk_drewN ?_ _ | refine blk_drew ?_ | refine blk_alloc ?_ _)); exact BK299.out⟩, ⟨by repeat (first | (with_reducible first | exact HB.out | apply below_alloc | apply pw_below_drewN | apply below_drew1 | refine below_set ?_ GE298.out | refine below_set ?_ GE299.out) | exact HB.out)⟩⟩
            case round =>
              clear H'
              try clear c1
              try clear c2
              try clear p2
              try clear c3
              try clear p3
              try clear q3
              try clear hx3
              try clear c4
              try clear c4b0
              try clear c4b1
              try clear c5
              try clear c5b0
              try clear c5b1
              try clear p5
              try clear q5
              try clear hx5
              try clear hf5
              try clear c6
              try clear p6
              try clear c8
              try clear c13
              try clear c13b0
              try clear c14
              try clear c14b0
              try clear c15
              try clear c15b0
              try clear c18
              try clear c19
              try clear c22
              try clear c22b0
              try clear c23
              try clear c24
              try clear c25
              try clear c27
              try clear c28
              try clear c29
              try clear c30
              try clear p30
              try clear q30
              try clear hx30
              try clear c31
              try clear c32
              try clear c34
              try clear c35
              try clear c35b0
              try clear c36
              try clear c36b0
              try clear c37
              try clear c38
              try clear c39
              try clear c41
              try clear c42
              try clear c44
              try clear c46
              try clear c46b0
              try clear c47
              try clear c47b0
              try clear c48
              try clear c48b0
              try clear c49
              try clear c49b0
              try clear c50
              try clear c50b0
              try clear p51
              try clear q51
              try clear hx51
              try clear hf51
              try clear c53
              try clear c54
              try clear c55
              try clear c56
              try clear c62
              try clear c63
              try clear c64
              try clear p64
              try clear c66
              try clear c67
              try clear hcz12_0
              try clear hcz12_1
              try clear hcz12_2
              try clear hcz12_3
              try clear hcz12_4
              try clear hcz12_5
              try clear hcz20_0
              try clear hcz20_1
              try clear hcz26_0
              try clear hcz26_1
              try clear hcz30_0
              try clear hcz30_1
              try clear hcz33_0
              try clear hcz33_1
              try clear hcz33_2
              try clear hcz33_3
              try clear hcz40_0
              try clear hcz40_1
              try clear hcz43_0
              try clear hcz43_1
              try clear hcz43_2
              try clear hcz43_3
              try clear hcz45_0
              try clear hcz45_1
              try clear hcz57_0
              try clear hcz57_1
              try clear hcz65_0
              try clear hcz65_1
              try clear hcz68_0
              try clear hcz68_1
              try clear hcz9_0
              try clear hcz9_1
              try clear hcz9_2
              try clear hcz9_3
              try clear hfz12_0
              try clear hfz12_1
              try clear hfz12_2
              try clear hfz12_3
              try clear hfz12_4
              try clear hfz12_5
              try clear hfz20_0
              try clear hfz20_1
              try clear hfz26_0
              try clear hfz26_1
              try clear hfz30_0
              try clear hfz30_1
              try clear hfz33_0
              try clear hfz33_1
              try clear hfz33_2
              try clear hfz33_3
              try clear hfz40_0
              try clear hfz40_1
              try clear hfz43_0
              try clear hfz43_1
              try clear hfz43_2
              try clear hfz43_3
              try clear hfz45_0
              try clear hfz45_1
              try clear hfz57_0
              try clear hfz57_1
              try clear hfz65_0
              try clear hfz65_1
              try clear hfz68_0
              try clear hfz68_1
              try clear hfz9_0
              try clear hfz9_1
              try clear hfz9_2
              try clear hfz9_3
              try clear hx303_0
              try clear hx303_1
              try clear hx306_0
              try clear hx306_1
              try clear hx307_0
              try clear hx307_1
              try clear hx309_0
              try clear hx51_0
              try clear p2
              try clear p3
              try clear p30
              try clear p303
              try clear p306
              try clear p307
              try clear p309
              try clear p51
              try clear p6
              try clear q3
              try clear q30
              try clear q303
              try clear q306
              try clear q307
              try clear q309
              try clear q51
              obtain ⟨x96_2, rfl, HA, HK2, HO_94, BK298, BK299, HB⟩ := hrel
              cases gk with
              | zero => exact absurd HA.out (by simp [timeboundref34_Leaf.l2])
              | succ k2 =>
                have H := HA.out
                clear HA
                simp only [timeboundref34_Leaf.l2] at H
                by_cases c70 : x96_2 < (x9_1.length : Int)
                · rw [if_pos c70] at H
                  have c70b0 : decide (x96_2 < (x9_1.length : Int)) = true := decide_eq_true c70
                  clear c70
                  by_cases c71 : 0 ≤ x96_2
                  · rw [if_pos c71] at H
                    have c71b0 : decide (0 ≤ x96_2) = true := decide_eq_true c71
                    clear c71
                    by_cases c72 : x96_2 < (x9_1.length : Int)
                    · rw [if_pos c72] at H
                      have c72b0 : decide (x96_2 < (x9_1.length : Int)) = true := decide_eq_true c72
                      clear c72
                      replace H := Option.bind_eq_some_iff.mp H
                      obtain ⟨t312, A730, H⟩ := H
                      replace H : (if (rd x9_1 x96_2) < (wrap64 (a2_5 * t312)) then (none) else (timeboundref34_Leaf.l2 k2 x10_1 x9_1 (x9_1.length : Int) (wrap64 (x96_2 + 1)) a0_0 l0_1 l0_2 a0_3 a2_0 a2_1 l2_2 a2_3 l2_4 a2_5)) = some (r1, r2, r3) := H
                      have A73 := Aside0.mk A730
                      clear A730
                      by_cases c74 : (rd x9_1 x96_2) < (wrap64 (a2_5 * t312))
                      · rw [if_pos c74] at H
                        exact absurd H (by simp)
                      · rw [if_neg c74] at H
                        have c74b0 : decide ((rd x9_1 x96_2) < (wrap64 (a2_5 * t312))) = false := decide_eq_false c74
                        clear c74
                        have H' := Aside0.mk H
                        clear H
                        have p311 : 0 ≤ (x96_2 : Int) := of_decide_eq_true (by first | (with_reducible assumption) | assumption)
                        have q311 : x96_2 < (x9_1.length : Int) := of_decide_eq_true (by first | (with_reducible assumption) | assumption)
                        obtain ⟨ad311, e311, hx311_0⟩ := Kd.at_int (Kd.R_reads' HO_94.out).2.2 x96_2 p311 q311
                        cases e311
                        replace p311 := eq_true p311
                        replace q311 := eq_true q311
                        try go_wp2
                        have n0_ := Aside0.mk (Kd.R_drew HO_94.out)
                        have n1_ := Aside0.mk (blk_drew BK298.out)
                        have n2_ := Aside0.mk (blk_drew BK299.out)
                        have n3_ := Aside0.mk (below_drew1 HB.out)
                        clear HO_94
                        clear BK298
                        clear BK299
                        clear HB
                        have HO_94 := n0_
                        have BK298 := n1_
                        have BK299 := n2_
                        have HB := n3_
                        clear n0_ n1_ n2_ n3_
                        refine start_ (n := 9) (S := fun w' => w'.cell? ⟨gb299, 0, none⟩ = some (.int .i64 a2_0) ∧ w'.cell? ⟨gb299, 1, none⟩ = some (.int .i64 a2_1) ∧ w'.cell? ⟨gb299, 2, none⟩ = some (.slice A2_2 l2_2.length c2_2) ∧ w'.cell? ⟨gb299, 3, none⟩ = some (.int .i64 a2_3) ∧ w'.cell? ⟨gb299, 4, none⟩ = some (.slice A2_4 l2_4.length c2_4) ∧ w'.cell? ⟨gb299, 5, none⟩ = some (.int .i64 a2_5) ∧ w'.cell? ⟨gb298, 0, none⟩ = some (.int .i64 a0_0) ∧ w'.cell? ⟨gb298, 1, none⟩ = some (.slice A0_1 l0_1.length c0_1) ∧ w'.cell? ⟨gb298, 2, none⟩ = some (.slice A0_2 l0_2.length c0_2) ∧ w'.cell? ⟨gb298, 3, none⟩ = some (.int .i64 a0_3)) (ds := []) #[false, false, false, false, false, false, false, false, false] (by kernel_rfl) rfl rfl ⟨(blk_cell BK299.out 0).trans rfl, (blk_cell BK299.out 1).trans rfl, (blk_cell BK299.out 2).trans rfl, (blk_cell BK299.out 3).trans rfl, (blk_cell BK299.out 4).trans rfl, (blk_cell BK299.out 5).trans rfl, (blk_cell BK298.out 0).trans rfl, (blk_cell BK298.out 1).trans rfl, (blk_cell BK298.out 2).trans rfl, (blk_cell BK298.out 3).trans rfl⟩ (fun hHeld => ?_); refine with_tabW timeboundref34_Leaf.tab22 timeboundref34_Leaf.bits22 (fun HT_ HW_ => ?_)
                        generalize wr.drew = w75 at HO_94 BK298 BK299 HB hHeld ⊢
                        refine pure_ (i := 0) (N := some 101) (v := ?_) (a' := ?_) #[true, false, false, false, false, false, false, false, false] rfl rfl (any_of HT_.out (by kernel_rfl)) (fun _ _ _ h => h) (Or.inl ⟨by rfl, ?_⟩) ?_ ?_
                        rotate_left
                        · intro w'
                          go_simp
                          with_reducible rfl
                        rotate_left
                        · simp only [Act.put, List.setIfInBounds_toArray, List.set_cons_zero, List.set_cons_succ, i64_w, i32_w]
                          rfl
                        refine pure_ (i := 1) (N := some 102) (v := ?_) (a' := ?_) #[true, true, false, false, false, false, false, false, false] rfl rfl (any_of HT_.out (by kernel_rfl)) (fun _ _ _ h => h) (Or.inl ⟨by rfl, ?_⟩) ?_ ?_
                        rotate_left
                        · intro w'
                          go_simp
                          with_reducible rfl
                        rotate_left
                        · simp only [Act.put, List.setIfInBounds_toArray, List.set_cons_zero, List.set_cons_succ, i64_w, i32_w]
                          rfl
                        refine pure_ (i := 3) (N := some 104) (v := ?_) (a' := ?_) #[true, true, false, true, false, false, false, false, false] rfl rfl (any_of HT_.out (by kernel_rfl)) (fun _ _ _ h => h) (Or.inl ⟨by rfl, ?_⟩) ?_ ?_
                        rotate_left
                        · intro w'
                          go_simp
                          with_reducible rfl
                        rotate_left
                        · simp only [Act.put, List.setIfInBounds_toArray, List.set_cons_zero, List.set_cons_succ, i64_w, i32_w]
                          rfl
                        refine pure_ (i := 5) (N := some 106) (v := ?_) (a' := ?_) #[true, true, false, true, false, true, false, false, false] rfl rfl (any_of HT_.out (by kernel_rfl)) (fun _ _ _ h => h) (Or.inl ⟨by rfl, ?_⟩) ?_ ?_
                        rotate_left
                        · intro w'
                          go_simp
                          with_reducible rfl
                        rotate_left
                        · simp only [Act.put, List.setIfInBounds_toArray, List.set_cons_zero, List.set_cons_succ, i64_w, i32_w]
                          rfl
                        refine take_ (i := 2) (N := some 103) (v := ?_) (a' := ?_) #[true, true, true, true, false, true, false, false, false] rfl rfl (take_ofW HT_.out HW_.out (by kernel_rfl)) (fun _ _ _ h => h) (Or.inl ⟨by rfl, ?_⟩) hHeld ?_ ?_
                        rotate_left
                        · rintro w' ⟨s0, s1, s2, s3, s4, s5, s6, s7, s8, s9⟩
                          go_simp
                          with_reducible rfl
                        rotate_left
                        · simp only [Act.put, List.setIfInBounds_toArray, List.set_cons_zero, List.set_cons_succ, i64_w, i32_w]
                          rfl
                        refine take_ (i := 4) (N := some 105) (v := ?_) (a' := ?_) #[true, true, true, true, true, true, false, false, false] rfl rfl (take_ofW HT_.out HW_.out (by kernel_rfl)) (fun _ _ _ h => h) (Or.inl ⟨by rfl, ?_⟩) hHeld ?_ ?_
                        rotate_left
                        · rintro w' ⟨s0, s1, s2, s3, s4, s5, s6, s7, s8, s9⟩
                          go_simp
                          with_reducible rfl
                        rotate_left
                        · simp only [Act.put, List.setIfInBounds_toArray, List.set_cons_zero, List.set_cons_succ, i64_w, i32_w]
                          rfl
                        refine one_ (i := 6) (N := some 107) #[true, true, true, true, true, true, true, false, false] rfl rfl (one_of HT_.out (by kernel_rfl)) (by decide) (fun K hK => ?_)
                        refine goes_ Try.func106 (by kernel_rfl) rfl #[.slice A0_2 l0_2.length c0_2, .int .i64 x96_2] (by rfl) rfl rfl (by (try simp only [List.map_toArray, List.map_cons, List.map_nil]); first | done | rfl | (simp only [List.length_drop, List.length_take]; rfl)) ?_
                        with_reducible refine (timeboundref32_Coef.calls k2 _ _ l0_2 x96_2 t312 _ ?side1 ?side2 A73.out).mono ?_
                        (case side1 => repeat (first | exact (Kd.C_below HR0_2.out HB.out) | (with_reducible refine Kd.C_alloc ?_ _) | (with_reducible refine Kd.C_drewN ?_ _) | (with_reducible refine Kd.C_drew ?_)))
                        (case side2 => exact HC0_2.out)
                        rintro e w76 ⟨rfl, hb⟩
                        refine ⟨_, rfl, ?_⟩
                        have n0_ := Aside0.mk (Kd.R_below (by (with_reducible repeat (first | apply Kd.R_alloc | apply Kd.R_drewN | apply Kd.R_drew)); exact HO_94.out) hb)
                        have n1_ := Aside0.mk (blk_below (g := gb298) (o := .cells #[.int .i64 a0_0, .slice A0_1 l0_1.length c0_1, .slice A0_2 l0_2.length c0_2, .int .i64 a0_3] 29 (0, 0)) (by (with_reducible repeat (first | refine blk_drewN ?_ _ | refine blk_drew ?_ | refine blk_alloc ?_ _)); exact BK298.out) hb)
                        have n2_ := Aside0.mk (blk_below (g := gb299) (o := .cells #[.int .i64 a2_0, .int .i64 a2_1, .slice A2_2 l2_2.length c2_2, .int .i64 a2_3, .slice A2_4 l2_4.length c2_4, .int .i64 a2_5] 90 (0, 0)) (by (with_reducible repeat (first | refine blk_drewN ?_ _ | refine blk_drew ?_ | refine blk_alloc ?_ _)); exact BK299.out) hb)
                        have n3_ := Aside0.mk (below_step (by repeat (first | (with_reducible first | exact HB.out | apply below_alloc | apply pw_below_drewN | apply below_drew1 | refine below_set ?_ GE298.out | refine below_set ?_ GE299.out) | exact HB.out)) hb)
                        clear HO_94
                        clear BK298
                        clear BK299
                        clear HB
                        have HO_94 := n0_
                        have BK298 := n1_
                        have BK299 := n2_
                        have HB := n3_
                        clear n0_ n1_ n2_ n3_
                        (try clear hb)
                        (try clear hb2)
                        (try clear hk)
                        (try clear hi)
                        refine hK.out _ _ ⟨(blk_cell BK299.out 0).trans rfl, (blk_cell BK299.out 1).trans rfl, (blk_cell BK299.out 2).trans rfl, (blk_cell BK299.out 3).trans rfl, (blk_cell BK299.out 4).trans rfl, (blk_cell BK299.out 5).trans rfl, (blk_cell BK298.out 0).trans rfl, (blk_cell BK298.out 1).trans rfl, (blk_cell BK298.out 2).trans rfl, (blk_cell BK298.out 3).trans rfl⟩ (fun hHeld => ?_)
                        clear hK K
                        refine norm_ (a' := ?_) ?_ ?_
                        rotate_left
                        · show Act.put _ (some 107) _ = _
                          simp only [Act.put, List.setIfInBounds_toArray, List.set_cons_zero, List.set_cons_succ, i64_w, i32_w]
                          rfl
                        refine pure_ (i := 7) (N := some 108) (v := ?_) (a' := ?_) #[true, true, true, true, true, true, true, true, false] rfl rfl (any_of HT_.out (by kernel_rfl)) (fun _ _ _ h => h) (Or.inl ⟨by rfl, ?_⟩) ?_ ?_
                        rotate_left
                        · intro w'
                          go_simp
                          with_reducible rfl
                        rotate_left
                        · simp only [Act.put, List.setIfInBounds_toArray, List.set_cons_zero, List.set_cons_succ, i64_w, i32_w]
                          rfl
                        refine pure_ (i := 8) (N := some 109) (v := ?_) (a' := ?_) #[true, true, true, true, true, true, true, true, true] rfl rfl (any_of HT_.out (by kernel_rfl)) (fun _ _ _ h => h) (Or.inl ⟨by rfl, ?_⟩) ?_ ?_
                        rotate_left
                        · intro w'
                          go_simp
                          with_reducible rfl
                        rotate_left
                        · simp only [Act.put, List.setIfInBounds_toArray, List.set_cons_zero, List.set_cons_succ, i64_w, i32_w]
                          rfl
                        refine done_ (done_of HT_.out (by kernel_rfl)) ?_
                        try go_wp2
                        go_roundg k2
                        case measure => have := HK1.out; have := HK2.out; omega
                        case rel => exact ⟨(wrap64 (x96_2 + 1)), (by first | rfl | (simp; done) | (simp [*]; done)), H', ⟨by have := HK1.out; have := HK2.out; omega⟩, ⟨by (with_reducible repeat (first | apply Kd.R_alloc | apply Kd.R_drewN | apply Kd.R_drew)); exact HO_94.out⟩, ⟨by (with_reducible repeat (first | refine blk_drewN ?_ _ | refine blk_drew ?_ | refine blk_alloc ?_ _)); exact BK298.out⟩, ⟨by (with_reducible repeat (first | refine blk_drewN ?_ _ | refine blk_drew ?_ | refine blk_alloc ?_ _)); exact BK299.out⟩, ⟨by repeat (first | (with_reducible first | exact HB.out | apply below_alloc | apply pw_below_drewN | apply below_drew1 | refine below_set ?_ GE298.out | refine below_set ?_ GE299.out) | exact HB.out)⟩⟩
                    · rw [if_neg c72] at H
                      exact absurd H (by simp)
                  · rw [if_neg c71] at H
                    exact absurd H (by simp)
                · rw [if_neg c70] at H
                  have c70b0 : decide (x96_2 < (x9_1.length : Int)) = false := decide_eq_false c70
                  clear c70
                  by_cases c77 : a2_5 = 0
                  · rw [if_pos c77] at H
                    exact absurd H (by simp)
                  · rw [if_neg c77] at H
                    have c77b0 : (a2_5 == 0) = false := beq_eq_false_iff_ne.mpr c77
                    have c77b1 : (a2_5 != 0) = true := bne_iff_ne.mpr c77
                    by_cases c78 : (Int.tmod x10_1 a2_5) < 0
                    · rw [if_pos c78] at H
                      exact absurd H (by simp)
                    · rw [if_neg c78] at H
                      have c78b0 : decide ((Int.tmod x10_1 a2_5) < 0) = false := decide_eq_false c78
                      clear c78
                      simp only [Option.some.injEq, Prod.mk.injEq] at H
                      obtain ⟨rfl, rfl, rfl⟩ := H
                      have hnb79 := NB299_298.out
                      have hnc79 := NB298_299.out
                      have hcz80_0 : wr.cell? ⟨gb299, 0, none⟩ = some (.int .i64 a2_0) := (blk_cell BK299.out 0).trans rfl
                      have hcz80_1 : wr.cell? ⟨gb299, 1, none⟩ = some (.int .i64 a2_1) := (blk_cell BK299.out 1).trans rfl
                      have hcz80_2 : wr.cell? ⟨gb299, 2, none⟩ = some (.slice A2_2 l2_2.length c2_2) := (blk_cell BK299.out 2).trans rfl
                      have hcz80_3 : wr.cell? ⟨gb299, 3, none⟩ = some (.int .i64 a2_3) := (blk_cell BK299.out 3).trans rfl
                      have hcz80_4 : wr.cell? ⟨gb299, 4, none⟩ = some (.slice A2_4 l2_4.length c2_4) := (blk_cell BK299.out 4).trans rfl
                      have hcz80_5 : wr.cell? ⟨gb299, 5, none⟩ = some (.int .i64 a2_5) := (blk_cell BK299.out 5).trans rfl
                      have hfz80_0 := blk_frozen BK299.out 0
                      have hfz80_1 := blk_frozen BK299.out 1
                      have hfz80_2 := blk_frozen BK299.out 2
                      have hfz80_3 := blk_frozen BK299.out 3
                      have hfz80_4 := blk_frozen BK299.out 4
                      have hfz80_5 := blk_frozen BK299.out 5
                      have hcz81_0 : wr.cell? ⟨gb298, 0, none⟩ = some (.int .i64 a0_0) := (blk_cell BK298.out 0).trans rfl
                      have hcz81_1 : wr.cell? ⟨gb298, 1, none⟩ = some (.slice A0_1 l0_1.length c0_1) := (blk_cell BK298.out 1).trans rfl
                      have hcz81_2 : wr.cell? ⟨gb298, 2, none⟩ = some (.slice A0_2 l0_2.length c0_2) := (blk_cell BK298.out 2).trans rfl
                      have hcz81_3 : wr.cell? ⟨gb298, 3, none⟩ = some (.int .i64 a0_3) := (blk_cell BK298.out 3).trans rfl
                      have hfz81_0 := blk_frozen BK298.out 0
                      have hfz81_1 := blk_frozen BK298.out 1
                      have hfz81_2 := blk_frozen BK298.out 2
                      have hfz81_3 := blk_frozen BK298.out 3
                      go_wp2
                      go_ret3
                      exact ⟨by first | rfl | (simp [errW_none, errW_some] <;> rfl) | (simp [*, errW_none, errW_some] <;> rfl), by repeat (first | (with_reducible first | exact HB.out | apply below_alloc | apply pw_below_drewN | apply below_drew1 | refine below_set ?_ GE298.out | refine below_set ?_ GE299.out) | exact HB.out)⟩
    · rw [if_neg c5] at H
      exact absurd H (by simp)
  · rw [if_neg c4] at H
    exact absurd H (by simp)

end Go.Proofs.Ytdgegoefehmfmaa.QCertW
