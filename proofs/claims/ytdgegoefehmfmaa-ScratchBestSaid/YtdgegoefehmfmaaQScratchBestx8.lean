-- Written for this claim by this session's own program (wip/pp).
import Derived.Test.YtdgegoefehmfmaaQScratchBestx0
import Derived.Test.YtdgegoefehmfmaaQScratchBestx1
import Derived.Test.YtdgegoefehmfmaaQScratchBestx2
import Derived.Test.YtdgegoefehmfmaaQScratchBestx3
import Derived.Test.YtdgegoefehmfmaaQScratchBestx4
import Derived.Test.YtdgegoefehmfmaaQScratchBestx5
import Derived.Test.YtdgegoefehmfmaaQScratchBestx6
import Derived.Test.YtdgegoefehmfmaaQScratchBestx7
namespace Go.Proofs.Ytdgegoefehmfmaa.QScratchBest
open Go.RowKit Go.Proofs.YtdgegoefehmfmaaW.PrintWords Go.Proofs.YtdgegoefehmfmaaW.PrintLast Go.Proofs.YtdgegoefehmfmaaW.PrintMore
attribute [local go_sem] max2_int min2_int max_two min_two max_three min_three max_four min_four   -- for this text's walks alone
set_option linter.unusedVariables false
set_option linter.unusedSimpArgs false

/-! ### timeboundref36_Best: function 38 -/
mutual
def timeboundref36_Best.j0 : Nat → List (S76) → Int → Bool → Option (List Int × Int)
  | 0, _, _, _ => none
  | k + 1, x0, x1, x23 => if x23 = true then (some (([] : List Int), 3)) else (timeboundref36_Best.l0 k x0 x1 ([] : List Int) 0 0 1)
def timeboundref36_Best.l0 : Nat → List (S76) → Int → List Int → Int → Int → Int → Option (List Int × Int)
  | 0, _, _, _, _, _, _ => none
  | k + 1, x0, x1, x6, x7, x8, x9 => if 0 ≤ (IntKind.u64.wrap ((x0.length : Int))) then (if x9 < (shl .i64 1 (IntKind.u64.wrap ((x0.length : Int)))) then (timeboundref36_Best.l1 k x0 x1 x6 x7 x8 x9 ([] : List Int) (x0.length : Int) 0) else (some (x6, 0))) else (none)
def timeboundref36_Best.l1 : Nat → List (S76) → Int → List Int → Int → Int → Int → List Int → Int → Int → Option (List Int × Int)
  | 0, _, _, _, _, _, _, _, _, _ => none
  | k + 1, x0, x1, x6, x7, x8, x9, x10, x33, x34 => if x34 < x33 then (if 0 ≤ (IntKind.u64.wrap (x34)) then (if (Go.bits .and .i64 (shr .i64 x9 (IntKind.u64.wrap (x34))) 1) = 1 then (if x10.length < 17592186044416 then (timeboundref36_Best.l1 k x0 x1 x6 x7 x8 x9 (x10 ++ [x34]) x33 (wrap64 (x34 + 1))) else (none)) else (timeboundref36_Best.l1 k x0 x1 x6 x7 x8 x9 x10 x33 (wrap64 (x34 + 1)))) else (none)) else ((timeboundref36_Value.f k x0 x10).bind fun bt218 => (if bt218.2.1 ≤ x1 then (if bt218.1 > x7 then (timeboundref36_Best.l0 k x0 x1 x10 bt218.1 bt218.2.1 (wrap64 (x9 + 1))) else (if bt218.1 = x7 then (if bt218.2.1 < x8 then (timeboundref36_Best.l0 k x0 x1 x10 bt218.1 bt218.2.1 (wrap64 (x9 + 1))) else (if bt218.2.1 = x8 then ((timeboundref36_before.f k x10 x6).bind fun t221 => (if t221 = true then (timeboundref36_Best.l0 k x0 x1 x10 bt218.1 bt218.2.1 (wrap64 (x9 + 1))) else (timeboundref36_Best.l0 k x0 x1 x6 x7 x8 (wrap64 (x9 + 1))))) else (timeboundref36_Best.l0 k x0 x1 x6 x7 x8 (wrap64 (x9 + 1))))) else (timeboundref36_Best.l0 k x0 x1 x6 x7 x8 (wrap64 (x9 + 1))))) else (timeboundref36_Best.l0 k x0 x1 x6 x7 x8 (wrap64 (x9 + 1)))))
end
def timeboundref36_Best.f (k : Nat) (l0 : List (S76)) (a1 : Int) : Option (List Int × Int) := (timeboundref36_Valid.f k l0).bind fun t214 => (if t214 = true then (if a1 < 0 then (timeboundref36_Best.j0 k l0 a1 true) else (timeboundref36_Best.j0 k l0 a1 (decide (a1 > 256)))) else (some (([] : List Int), 43)))
theorem timeboundref36_Best.mono_l : ∀ k, (∀ y0 y1 y2, LeO (timeboundref36_Best.j0 k y0 y1 y2) (timeboundref36_Best.j0 (k + 1) y0 y1 y2)) ∧ (∀ y0 y1 y2 y3 y4 y5, LeO (timeboundref36_Best.l0 k y0 y1 y2 y3 y4 y5) (timeboundref36_Best.l0 (k + 1) y0 y1 y2 y3 y4 y5)) ∧ (∀ y0 y1 y2 y3 y4 y5 y6 y7 y8, LeO (timeboundref36_Best.l1 k y0 y1 y2 y3 y4 y5 y6 y7 y8) (timeboundref36_Best.l1 (k + 1) y0 y1 y2 y3 y4 y5 y6 y7 y8))
  | 0 => ⟨fun _ _ _ r h => by simp [timeboundref36_Best.j0] at h, fun _ _ _ _ _ _ r h => by simp [timeboundref36_Best.l0] at h, fun _ _ _ _ _ _ _ _ _ r h => by simp [timeboundref36_Best.l1] at h⟩
  | k + 1 => by
    obtain ⟨ih0, ih1, ih2⟩ := timeboundref36_Best.mono_l k
    refine ⟨?_, ?_, ?_⟩
    · intro y0 y1 y2
      unfold timeboundref36_Best.j0
      repeat' first
      | (with_reducible exact ih0 _ _ _)
      | (with_reducible exact ih1 _ _ _ _ _ _)
      | (with_reducible exact ih2 _ _ _ _ _ _ _ _ _)
      | (with_reducible exact timeboundref36_Valid.mono _ _)
      | (with_reducible exact timeboundref36_Value.mono _ _ _)
      | (with_reducible exact timeboundref36_before.mono _ _ _)
      | (with_reducible exact LeO.refl _)
      | (with_reducible exact LeO.none _)
      | (with_reducible refine LeO.ite ?_ ?_)
      | (with_reducible refine LeO.bind ?_ (fun _ => ?_))
      | exact ih0 _ _ _
      | exact ih1 _ _ _ _ _ _
      | exact ih2 _ _ _ _ _ _ _ _ _
      | exact timeboundref36_Valid.mono _ _
      | exact timeboundref36_Value.mono _ _ _
      | exact timeboundref36_before.mono _ _ _
      | exact LeO.none _
      | refine LeO.ite ?_ ?_
      | refine LeO.bind ?_ (fun _ => ?_)
    · intro y0 y1 y2 y3 y4 y5
      unfold timeboundref36_Best.l0
      repeat' first
      | (with_reducible exact ih0 _ _ _)
      | (with_reducible exact ih1 _ _ _ _ _ _)
      | (with_reducible exact ih2 _ _ _ _ _ _ _ _ _)
      | (with_reducible exact timeboundref36_Valid.mono _ _)
      | (with_reducible exact timeboundref36_Value.mono _ _ _)
      | (with_reducible exact timeboundref36_before.mono _ _ _)
      | (with_reducible exact LeO.refl _)
      | (with_reducible exact LeO.none _)
      | (with_reducible refine LeO.ite ?_ ?_)
      | (with_reducible refine LeO.bind ?_ (fun _ => ?_))
      | exact ih0 _ _ _
      | exact ih1 _ _ _ _ _ _
      | exact ih2 _ _ _ _ _ _ _ _ _
      | exact timeboundref36_Valid.mono _ _
      | exact timeboundref36_Value.mono _ _ _
      | exact timeboundref36_before.mono _ _ _
      | exact LeO.none _
      | refine LeO.ite ?_ ?_
      | refine LeO.bind ?_ (fun _ => ?_)
    · intro y0 y1 y2 y3 y4 y5 y6 y7 y8
      unfold timeboundref36_Best.l1
      repeat' first
      | (with_reducible exact ih0 _ _ _)
      | (with_reducible exact ih1 _ _ _ _ _ _)
      | (with_reducible exact ih2 _ _ _ _ _ _ _ _ _)
      | (with_reducible exact timeboundref36_Valid.mono _ _)
      | (with_reducible exact timeboundref36_Value.mono _ _ _)
      | (with_reducible exact timeboundref36_before.mono _ _ _)
      | (with_reducible exact LeO.refl _)
      | (with_reducible exact LeO.none _)
      | (with_reducible refine LeO.ite ?_ ?_)
      | (with_reducible refine LeO.bind ?_ (fun _ => ?_))
      | exact ih0 _ _ _
      | exact ih1 _ _ _ _ _ _
      | exact ih2 _ _ _ _ _ _ _ _ _
      | exact timeboundref36_Valid.mono _ _
      | exact timeboundref36_Value.mono _ _ _
      | exact timeboundref36_before.mono _ _ _
      | exact LeO.none _
      | refine LeO.ite ?_ ?_
      | refine LeO.bind ?_ (fun _ => ?_)
theorem timeboundref36_Best.mono : ∀ a0 a1 k, LeO (timeboundref36_Best.f k a0 a1) (timeboundref36_Best.f (k + 1) a0 a1) := by
  intro a0 a1 k
  obtain ⟨ih0, ih1, ih2⟩ := timeboundref36_Best.mono_l k
  unfold timeboundref36_Best.f
  repeat' first
      | (with_reducible exact ih0 _ _ _)
      | (with_reducible exact ih1 _ _ _ _ _ _)
      | (with_reducible exact ih2 _ _ _ _ _ _ _ _ _)
      | (with_reducible exact timeboundref36_Valid.mono _ _)
      | (with_reducible exact timeboundref36_Value.mono _ _ _)
      | (with_reducible exact timeboundref36_before.mono _ _ _)
      | (with_reducible exact LeO.refl _)
      | (with_reducible exact LeO.none _)
      | (with_reducible refine LeO.ite ?_ ?_)
      | (with_reducible refine LeO.bind ?_ (fun _ => ?_))
      | exact ih0 _ _ _
      | exact ih1 _ _ _ _ _ _
      | exact ih2 _ _ _ _ _ _ _ _ _
      | exact timeboundref36_Valid.mono _ _
      | exact timeboundref36_Value.mono _ _ _
      | exact timeboundref36_before.mono _ _ _
      | exact LeO.none _
      | refine LeO.ite ?_ ?_
      | refine LeO.bind ?_ (fun _ => ?_)
set_option maxHeartbeats 8000000 in
set_option maxRecDepth 100000 in
theorem timeboundref36_Best.calls (k : Nat) (A0 : Option Addr) (c0 : Nat) (l0 : List (S76)) (a1 : Int) (r1 : List Int) (r2 : Int) (w : World) (hr0 : Kd.C k76 w A0 l0.length l0) (hc0 : l0.length ≤ c0) (h : timeboundref36_Best.f k l0 a1 = some (r1, r2)) :
    Calls Try.prog 38 #[.slice A0 l0.length c0, .int .i64 a1] w fun e w' => ∃ v0_ : Value, e = .returned (.tuple #[v0_, .int .i64 r2]) ∧ Kd.R (Kd.int .i64) 3 w' w.heap.size (fun _ => True) v0_ r1 ∧ Below w.heap.size w w' := by
  have HR0 := Aside0.mk hr0
  have HC0 := Aside0.mk hc0
  clear hr0 hc0
  have HB := Aside0.mk (Below.refl w.heap.size w)
  have H : ((timeboundref36_Valid.f k l0).bind fun t214 => (if t214 = true then (if a1 < 0 then (timeboundref36_Best.j0 k l0 a1 true) else (timeboundref36_Best.j0 k l0 a1 (decide (a1 > 256)))) else (some (([] : List Int), 43)))) = some (r1, r2) := h
  clear h
  replace H := Option.bind_eq_some_iff.mp H
  obtain ⟨t214, A30, H⟩ := H
  replace H : (if t214 = true then (if a1 < 0 then (timeboundref36_Best.j0 k l0 a1 true) else (timeboundref36_Best.j0 k l0 a1 (decide (a1 > 256)))) else (some (([] : List Int), 43))) = some (r1, r2) := H
  have A3 := Aside0.mk A30
  clear A30
  by_cases c4 : t214 = true
  · subst c4
    have H1 : (if a1 < 0 then (timeboundref36_Best.j0 k l0 a1 true) else (timeboundref36_Best.j0 k l0 a1 (decide (a1 > 256)))) = some (r1, r2) := by rw [if_pos rfl] at H; exact H
    clear H
    have H := H1
    clear H1
    have HC5 := Aside0.mk H
    clear H
    go_enter Try.func38, Try.ntmps38
    go_upto_region 3 with (first | ((with_reducible refine gate_callee (f := 35) rfl ?_); refine goesL_ (some 16) rfl rfl Try.func35 (by kernel_rfl) rfl #[.slice A0 l0.length c0] rfl (by (try simp only [List.map_toArray, List.map_cons, List.map_nil]); first | done | rfl | (simp only [List.length_drop, List.length_take]; rfl)) ?_; (with_reducible refine (timeboundref36_Valid.calls k _ _ l0 true _ ?side1 ?side2 A3.out).mono ?_); (case side1 => repeat (first | exact HR0.out | (with_reducible refine Kd.C_alloc ?_ _) | (with_reducible refine Kd.C_drewN ?_ _) | (with_reducible refine Kd.C_drew ?_))); (case side2 => exact HC0.out); rintro e w6 ⟨rfl, hb⟩; refine ⟨_, rfl, ?_⟩; have n0_ := Aside0.mk (below_step (by repeat (first | (with_reducible first | exact HB.out | apply below_alloc | apply pw_below_drewN | apply below_drew1) | exact HB.out)) hb); clear HB; have HB := n0_; clear n0_; (try clear hb); (try clear hb2); (try clear hk); (try clear hi)))
    (try simp only [Act.put, List.setIfInBounds_toArray, List.set_cons_zero, List.set_cons_succ])
    go_cut [23] (fun v23 wc => ∃ (kq : Nat) (x23_4 : Bool), v23 = .bool x23_4 ∧ Aside0 (timeboundref36_Best.j0 kq l0 a1 x23_4 = some (r1, r2)) ∧ Aside0 (kq ≤ k) ∧ Aside0 (Below w.heap.size w wc))
    case first =>
      have H := HC5.out
      clear HC5
      by_cases c7 : a1 < 0
      · rw [if_pos c7] at H
        have c7b0 : decide (a1 < 0) = true := decide_eq_true c7
        clear c7
        (first | rw [c7b0] | (simp only [i64_w, i32_w]; rw [c7b0]) | skip)
        have H' := Aside0.mk H
        clear H
        go_wp2
        go_meet
        case rel => exact ⟨_, (true), (by first | rfl | (simp; done) | (simp [*]; done)), H', ⟨by first | omega | exact Nat.le_refl _⟩, ⟨by repeat (first | (with_reducible first | exact HB.out | apply below_alloc | apply pw_below_drewN | apply below_drew1) | exact HB.out)⟩⟩
      · rw [if_neg c7] at H
        have c7b0 : decide (a1 < 0) = false := decide_eq_false c7
        clear c7
        (first | rw [c7b0] | (simp only [i64_w, i32_w]; rw [c7b0]) | skip)
        have H' := Aside0.mk H
        clear H
        go_wp2
        go_meet
        case rel => exact ⟨_, (decide (a1 > 256)), (by first | rfl | (simp; done) | (simp [*]; done)), H', ⟨by first | omega | exact Nat.le_refl _⟩, ⟨by repeat (first | (with_reducible first | exact HB.out | apply below_alloc | apply pw_below_drewN | apply below_drew1) | exact HB.out)⟩⟩
    case rest =>
      clear HC5
      try clear p2
      try clear c3
      try clear c4
      try clear c7
      try clear c7b0
      obtain ⟨kq, x23_4, rfl, HA, HJ4, HB⟩ := hcut
      cases kq with
      | zero => exact absurd HA.out (by simp [timeboundref36_Best.j0])
      | succ kj4 =>
        have H := HA.out
        clear HA
        simp only [timeboundref36_Best.j0] at H
        by_cases c8 : x23_4 = true
        · subst c8
          have H1 : (some (([] : List Int), 3)) = some (r1, r2) := by rw [if_pos rfl] at H; exact H
          clear H
          have H := H1
          clear H1
          simp only [Option.some.injEq, Prod.mk.injEq] at H
          obtain ⟨rfl, rfl⟩ := H
          go_wp2
          go_ret2
          exact ⟨_, by first | rfl | (simp [errW_none, errW_some] <;> rfl) | (simp [*, errW_none, errW_some] <;> rfl), by first | exact Kd.R_nil _ _ _ _ _ | exact Kd.N_nil _ _ _ _ _ | exact Kd.V_nil _ _ _ _ _ | exact Kd.Q_nil _ _ _ _ _ | exact Kd.S_nil _ _ _ _ _, by repeat (first | (with_reducible first | exact HB.out | apply below_alloc | apply pw_below_drewN | apply below_drew1) | exact HB.out)⟩
        · replace c8 := Bool.eq_false_iff.mpr c8
          subst c8
          have H1 : (timeboundref36_Best.l0 kj4 l0 a1 ([] : List Int) 0 0 1) = some (r1, r2) := by rw [if_neg (show ¬ (false = true) by decide)] at H; exact H
          clear H
          have H := H1
          clear H1
          have H' := Aside0.mk H
          clear H
          go_wp2
          go_loopg [6, 7, 8, 9] kj4 (fun kq v6 v7 v8 v9 w' => ∃ (x6_2 : List Int) (x7_2 : Int) (x8_2 : Int) (x9_2 : Int), v7 = .int .i64 x7_2 ∧ v8 = .int .i64 x8_2 ∧ v9 = .int .i64 x9_2 ∧ Aside0 (timeboundref36_Best.l0 kq l0 a1 x6_2 x7_2 x8_2 x9_2 = some (r1, r2)) ∧ Aside0 (kq ≤ kj4) ∧ Aside0 (Kd.R (Kd.int .i64) 3 w' w.heap.size (fun _ => True) v6 x6_2) ∧ Aside0 (Below w.heap.size w w'))
          case atStart => exact ⟨(([] : List Int)), (0), (0), (1), (by first | rfl | (simp; done) | (simp [*]; done)), (by first | rfl | (simp; done) | (simp [*]; done)), (by first | rfl | (simp; done) | (simp [*]; done)), H', ⟨Nat.le_refl _⟩, ⟨by first | exact Kd.R_nil _ _ _ _ _ | exact Kd.N_nil _ _ _ _ _ | exact Kd.V_nil _ _ _ _ _ | exact Kd.Q_nil _ _ _ _ _ | exact Kd.S_nil _ _ _ _ _⟩, ⟨by repeat (first | (with_reducible first | exact HB.out | apply below_alloc | apply pw_below_drewN | apply below_drew1) | exact HB.out)⟩⟩
          case round =>
            clear H'
            try clear p2
            try clear c3
            try clear c4
            try clear c7
            try clear c7b0
            try clear c8
            try clear p2
            obtain ⟨x6_2, x7_2, x8_2, x9_2, rfl, rfl, rfl, HA, HK2, HO_6, HB⟩ := hrel
            cases gk with
            | zero => exact absurd HA.out (by simp [timeboundref36_Best.l0])
            | succ k2 =>
              have H := HA.out
              clear HA
              simp only [timeboundref36_Best.l0] at H
              obtain ⟨ji9, hji9⟩ : ∃ j_ : Int, (IntKind.u64.wrap ((l0.length : Int))) = j_ := ⟨_, rfl⟩
              replace H : (if 0 ≤ (ji9) then (if x9_2 < (shl .i64 1 (ji9)) then (timeboundref36_Best.l1 k2 l0 a1 x6_2 x7_2 x8_2 x9_2 ([] : List Int) (l0.length : Int) 0) else (some (x6_2, 0))) else (none)) = some (r1, r2) := by first | (rw [hji9] at H; exact H) | (simp only [hji9] at H ⊢; exact H)
              by_cases c10 : 0 ≤ (ji9)
              · rw [if_pos c10] at H
                have c10b0 := eq_true c10
                have c10b1 : decide (0 ≤ (ji9)) = true := decide_eq_true c10
                clear c10
                obtain ⟨ji11, hji11⟩ : ∃ j_ : Int, (shl .i64 1 (ji9)) = j_ := ⟨_, rfl⟩
                replace H : (if x9_2 < (ji11) then (timeboundref36_Best.l1 k2 l0 a1 x6_2 x7_2 x8_2 x9_2 ([] : List Int) (l0.length : Int) 0) else (some (x6_2, 0))) = some (r1, r2) := by first | (rw [hji11] at H; exact H) | (simp only [hji11] at H ⊢; exact H)
                have hji11_ : (IntKind.i64.wrap (1 * 2 ^ min (ji9).toNat 64)) = ji11 := hji11
                have hji11z : (ji9) ≤ 64 → (IntKind.i64.wrap (1 * 2 ^ (ji9).toNat)) = ji11 := shl_small hji11
                have hji11u : (IntKind.i64.wrap (2 ^ min (ji9).toNat 64)) = ji11 := by have h_ := hji11_; rw [Int.one_mul] at h_; exact h_
                have hji11v : (ji9) ≤ 64 → (IntKind.i64.wrap (2 ^ (ji9).toNat)) = ji11 := fun hle_ => by have h_ := hji11z hle_; rw [Int.one_mul] at h_; exact h_
                have hji11y : (wrap64 (1 * 2 ^ min (ji9).toNat 64)) = ji11 := (i64_w _).symm.trans hji11_
                have hji11x : (ji9) ≤ 64 → (wrap64 (1 * 2 ^ (ji9).toNat)) = ji11 := fun h_ => (i64_w _).symm.trans (hji11z h_)
                by_cases c12 : x9_2 < (ji11)
                · rw [if_pos c12] at H
                  have c12b0 : decide (x9_2 < (ji11)) = true := decide_eq_true c12
                  clear c12
                  have H' := Aside0.mk H
                  clear H
                  go_wp2
                  go_loopg [10, 34] k2 (fun kq v10 v34 w' => ∃ (x10_3 : List Int) (x34_3 : Int), v34 = .int .i64 x34_3 ∧ Aside0 (timeboundref36_Best.l1 kq l0 a1 x6_2 x7_2 x8_2 x9_2 x10_3 (l0.length : Int) x34_3 = some (r1, r2)) ∧ Aside0 (kq ≤ k2) ∧ Aside0 (Kd.R (Kd.int .i64) 3 w' w.heap.size (fun k_ => some k_ ≠ (v10 : Value).ownBlock) u6 x6_2) ∧ Aside0 (Kd.R (Kd.int .i64) 3 w' w.heap.size (fun k_ => some k_ ≠ (u6 : Value).ownBlock) v10 x10_3) ∧ Aside0 (Below w.heap.size w w'))
                  case atStart => exact ⟨(([] : List Int)), (0), (by first | rfl | (simp; done) | (simp [*]; done)), H', ⟨Nat.le_refl _⟩, ⟨by (with_reducible repeat (first | apply Kd.R_alloc | apply Kd.R_drewN | apply Kd.R_drew)); exact Kd.R_mono HO_6.out (fun _ hk => (by simp [Value.ownBlock]))⟩, ⟨by first | exact Kd.R_nil _ _ _ _ _ | exact Kd.N_nil _ _ _ _ _ | exact Kd.V_nil _ _ _ _ _ | exact Kd.Q_nil _ _ _ _ _ | exact Kd.S_nil _ _ _ _ _⟩, ⟨by repeat (first | (with_reducible first | exact HB.out | apply below_alloc | apply pw_below_drewN | apply below_drew1) | exact HB.out)⟩⟩
                  case round =>
                    clear H'
                    try clear c1
                    try clear p2
                    try clear c3
                    try clear c4
                    try clear p6
                    try clear c7
                    try clear c7b0
                    try clear c8
                    try clear c10
                    try clear c10b0
                    try clear c10b1
                    try clear c12
                    try clear c12b0
                    try clear p2
                    obtain ⟨x10_3, x34_3, rfl, HA, HK3, HO_6, HO_10, HB⟩ := hrel
                    cases gk with
                    | zero => exact absurd HA.out (by simp [timeboundref36_Best.l1])
                    | succ k3 =>
                      have H := HA.out
                      clear HA
                      simp only [timeboundref36_Best.l1] at H
                      by_cases c13 : x34_3 < (l0.length : Int)
                      · rw [if_pos c13] at H
                        have c13b0 : decide (x34_3 < (l0.length : Int)) = true := decide_eq_true c13
                        clear c13
                        obtain ⟨ji14, hji14⟩ : ∃ j_ : Int, (IntKind.u64.wrap (x34_3)) = j_ := ⟨_, rfl⟩
                        replace H : (if 0 ≤ (ji14) then (if (Go.bits .and .i64 (shr .i64 x9_2 (ji14)) 1) = 1 then (if x10_3.length < 17592186044416 then (timeboundref36_Best.l1 k3 l0 a1 x6_2 x7_2 x8_2 x9_2 (x10_3 ++ [x34_3]) (l0.length : Int) (wrap64 (x34_3 + 1))) else (none)) else (timeboundref36_Best.l1 k3 l0 a1 x6_2 x7_2 x8_2 x9_2 x10_3 (l0.length : Int) (wrap64 (x34_3 + 1)))) else (none)) = some (r1, r2) := by first | (rw [hji14] at H; exact H) | (simp only [hji14] at H ⊢; exact H)
                        by_cases c15 : 0 ≤ (ji14)
                        · rw [if_pos c15] at H
                          have c15b0 := eq_true c15
                          have c15b1 : decide (0 ≤ (ji14)) = true := decide_eq_true c15
                          clear c15
                          obtain ⟨ji16, hji16⟩ : ∃ j_ : Int, (shr .i64 x9_2 (ji14)) = j_ := ⟨_, rfl⟩
                          replace H : (if (Go.bits .and .i64 (ji16) 1) = 1 then (if x10_3.length < 17592186044416 then (timeboundref36_Best.l1 k3 l0 a1 x6_2 x7_2 x8_2 x9_2 (x10_3 ++ [x34_3]) (l0.length : Int) (wrap64 (x34_3 + 1))) else (none)) else (timeboundref36_Best.l1 k3 l0 a1 x6_2 x7_2 x8_2 x9_2 x10_3 (l0.length : Int) (wrap64 (x34_3 + 1)))) = some (r1, r2) := by first | (rw [hji16] at H; exact H) | (simp only [hji16] at H ⊢; exact H)
                          have hji16_ : (x9_2 / 2 ^ min (ji14).toNat 64) = ji16 := hji16
                          have hji16z : (ji14) ≤ 64 → (x9_2 / 2 ^ (ji14).toNat) = ji16 := shr_small hji16
                          by_cases c17 : (Go.bits .and .i64 (ji16) 1) = 1
                          · rw [if_pos c17] at H
                            have c17b0 : ((Go.bits .and .i64 (ji16) 1) == 1) = true := beq_iff_eq.mpr c17
                            have c17b1 : ((Go.bits .and .i64 (ji16) 1) != 1) = false := bne_eq_false_iff_eq.mpr c17
                            clear c17
                            by_cases c18 : x10_3.length < 17592186044416
                            · rw [if_pos c18] at H
                              have LMc18 := Aside0.mk c18
                              clear c18
                              obtain ⟨y215, hy215⟩ : ∃ y_ : List Int, y_ = (x10_3 ++ [x34_3]) := ⟨_, rfl⟩
                              replace H : (timeboundref36_Best.l1 k3 l0 a1 x6_2 x7_2 x8_2 x9_2 y215 (l0.length : Int) (wrap64 (x34_3 + 1))) = some (r1, r2) := by first | (rw [hy215]; with_reducible exact H) | (have H2_ := (Option.bind_some _ _).symm.trans H; rw [hy215]; with_reducible exact H2_) | (have H2_ := (Option.bind_some _ _).symm.trans H; with_reducible exact H2_) | with_reducible exact H | (rw [hy215]; exact H) | exact H
                              have Ny215 := Aside0.mk hy215
                              clear hy215
                              have H' := Aside0.mk H
                              clear H
                              go_wp2_with (first | ((with_reducible refine gate_builtin (b := .append) (xs := #[.tmp 43, .tmp 45]) rfl ?_); at_builtin; refine Kd.R_append (Kd.int .i64) (w0 := w) w.heap.size rfl (.tmp 43) (.tmp 45) 22 3 (.int .i64 0) 8 rfl Try.underlying22 info3 rfl (by decide) (by omega) u10 x10_3 x34_3 [.int .i64 x34_3] (fun k_ => some k_ ≠ (u6 : Value).ownBlock) (fun _ => False) rfl rfl ?aP (fun _ hk => hk.elim) ?aF ?aO ?aB ?aS ?aL ?_; (case aP => exact rfl); (case aB => exact (by repeat (first | (with_reducible first | exact HB.out | apply below_alloc | apply pw_below_drewN | apply below_drew1) | exact HB.out))); (case aF => exact (fun k_ hk => Kd.fresh' (Kd.R_lt (by (with_reducible repeat (first | apply Kd.R_alloc | apply Kd.R_drewN | apply Kd.R_drew)); exact HO_6.out)) k_ hk)); (case aO => exact (by (with_reducible repeat (first | apply Kd.R_alloc | apply Kd.R_drewN | apply Kd.R_drew)); exact HO_10.out)); (case aS => exact (below_size (by repeat (first | (with_reducible first | exact HB.out | apply below_alloc | apply pw_below_drewN | apply below_drew1) | exact HB.out)))); (case aL => have := LMc18.out; omega); intro v216 w19 ho hb hg hat; rw [← Ny215.out] at ho; have n0_ := Aside0.mk (Kd.R_after (ok := (fun _ => True)) (by (with_reducible repeat (first | apply Kd.R_alloc | apply Kd.R_drewN | apply Kd.R_drew)); exact Kd.R_mono HO_6.out (fun _ hk => ⟨trivial, hk⟩)) hg hat); have n1_ := Aside0.mk (hb); have n2_ := Aside0.mk (ho); clear HO_6; clear HB; clear HO_10; have HO_6 := n0_; have HB := n1_; have HO217 := n2_; clear n0_ n1_ n2_; clear ho hb hg hat))
                              go_roundg k3
                              case measure => have := HJ4.out; have := HK2.out; have := HK3.out; omega
                              case rel => exact ⟨(y215), (wrap64 (x34_3 + 1)), (by first | rfl | (simp; done) | (simp [*]; done)), H', ⟨by have := HJ4.out; have := HK2.out; have := HK3.out; omega⟩, ⟨by (with_reducible repeat (first | apply Kd.R_alloc | apply Kd.R_drewN | apply Kd.R_drew)); exact Kd.R_mono HO_6.out (fun _ hk => hk.2)⟩, ⟨by (with_reducible repeat (first | apply Kd.R_alloc | apply Kd.R_drewN | apply Kd.R_drew)); exact HO217.out⟩, ⟨by repeat (first | (with_reducible first | exact HB.out | apply below_alloc | apply pw_below_drewN | apply below_drew1) | exact HB.out)⟩⟩
                            · rw [if_neg c18] at H
                              exact absurd H (by simp)
                          · rw [if_neg c17] at H
                            have c17b0 : ((Go.bits .and .i64 (ji16) 1) == 1) = false := beq_eq_false_iff_ne.mpr c17
                            have c17b1 : ((Go.bits .and .i64 (ji16) 1) != 1) = true := bne_iff_ne.mpr c17
                            have H' := Aside0.mk H
                            clear H
                            go_wp2
                            go_roundg k3
                            case measure => have := HJ4.out; have := HK2.out; have := HK3.out; omega
                            case rel => exact ⟨(x10_3), (wrap64 (x34_3 + 1)), (by first | rfl | (simp; done) | (simp [*]; done)), H', ⟨by have := HJ4.out; have := HK2.out; have := HK3.out; omega⟩, ⟨by (with_reducible repeat (first | apply Kd.R_alloc | apply Kd.R_drewN | apply Kd.R_drew)); exact HO_6.out⟩, ⟨by (with_reducible repeat (first | apply Kd.R_alloc | apply Kd.R_drewN | apply Kd.R_drew)); exact HO_10.out⟩, ⟨by repeat (first | (with_reducible first | exact HB.out | apply below_alloc | apply pw_below_drewN | apply below_drew1) | exact HB.out)⟩⟩
                        · rw [if_neg c15] at H
                          exact absurd H (by simp)
                      · rw [if_neg c13] at H
                        have c13b0 : decide (x34_3 < (l0.length : Int)) = false := decide_eq_false c13
                        clear c13
                        replace H := Option.bind_eq_some_iff.mp H
                        obtain ⟨⟨t218, t219, t220⟩, A200, H⟩ := H
                        replace H : (if t219 ≤ a1 then (if t218 > x7_2 then (timeboundref36_Best.l0 k3 l0 a1 x10_3 t218 t219 (wrap64 (x9_2 + 1))) else (if t218 = x7_2 then (if t219 < x8_2 then (timeboundref36_Best.l0 k3 l0 a1 x10_3 t218 t219 (wrap64 (x9_2 + 1))) else (if t219 = x8_2 then ((timeboundref36_before.f k3 x10_3 x6_2).bind fun t221 => (if t221 = true then (timeboundref36_Best.l0 k3 l0 a1 x10_3 t218 t219 (wrap64 (x9_2 + 1))) else (timeboundref36_Best.l0 k3 l0 a1 x6_2 x7_2 x8_2 (wrap64 (x9_2 + 1))))) else (timeboundref36_Best.l0 k3 l0 a1 x6_2 x7_2 x8_2 (wrap64 (x9_2 + 1))))) else (timeboundref36_Best.l0 k3 l0 a1 x6_2 x7_2 x8_2 (wrap64 (x9_2 + 1))))) else (timeboundref36_Best.l0 k3 l0 a1 x6_2 x7_2 x8_2 (wrap64 (x9_2 + 1)))) = some (r1, r2) := H
                        have A20 := Aside0.mk A200
                        clear A200
                        by_cases c21 : t219 ≤ a1
                        · rw [if_pos c21] at H
                          have c21b0 : decide (t219 ≤ a1) = true := decide_eq_true c21
                          clear c21
                          by_cases c22 : t218 > x7_2
                          · rw [if_pos c22] at H
                            have c22b0 : decide (x7_2 < t218) = true := decide_eq_true c22
                            clear c22
                            have H' := Aside0.mk H
                            clear H
                            obtain ⟨Ao23, co23, eo23⟩ := Kd.R_slice HO_10.out
                            subst eo23
                            go_wp2_with (first | ((with_reducible refine gate_callee (f := 40) rfl ?_); refine goesL_ (some 51) rfl rfl Try.func40 (by kernel_rfl) rfl #[.slice A0 l0.length c0, .slice Ao23 x10_3.length co23] rfl (by (try simp only [List.map_toArray, List.map_cons, List.map_nil]); first | done | rfl | (simp only [List.length_drop, List.length_take]; rfl)) ?_; (with_reducible refine (timeboundref36_Value.calls k3 _ _ l0 _ _ x10_3 t218 t219 t220 _ ?side1 ?side2 ?side3 ?side4 A20.out).mono ?_); (case side1 => repeat (first | exact (Kd.C_below HR0.out HB.out) | (with_reducible refine Kd.C_alloc ?_ _) | (with_reducible refine Kd.C_drewN ?_ _) | (with_reducible refine Kd.C_drew ?_))); (case side2 => exact HC0.out); (case side3 => repeat (first | exact (Kd.R_reads' HO_10.out).2.2 | (with_reducible refine Kd.C_alloc ?_ _) | (with_reducible refine Kd.C_drewN ?_ _) | (with_reducible refine Kd.C_drew ?_))); (case side4 => exact (Kd.R_reads' HO_10.out).2.1); rintro e w24 ⟨rfl, hb⟩; refine ⟨_, rfl, ?_⟩; have n0_ := Aside0.mk (Kd.R_below (by (with_reducible repeat (first | apply Kd.R_alloc | apply Kd.R_drewN | apply Kd.R_drew)); exact HO_6.out) hb); have n1_ := Aside0.mk (Kd.R_below (by (with_reducible repeat (first | apply Kd.R_alloc | apply Kd.R_drewN | apply Kd.R_drew)); exact HO_10.out) hb); have n2_ := Aside0.mk (below_step (by repeat (first | (with_reducible first | exact HB.out | apply below_alloc | apply pw_below_drewN | apply below_drew1) | exact HB.out)) hb); clear HO_6; clear HO_10; clear HB; have HO_6 := n0_; have HO_10 := n1_; have HB := n2_; clear n0_ n1_ n2_; (try clear hb); (try clear hb2); (try clear hk); (try clear hi)))
                            go_roundg k3
                            case measure => have := HJ4.out; have := HK2.out; have := HK3.out; omega
                            case rel => exact ⟨(x10_3), (t218), (t219), (wrap64 (x9_2 + 1)), (by first | rfl | (simp; done) | (simp [*]; done)), (by first | rfl | (simp; done) | (simp [*]; done)), (by first | rfl | (simp; done) | (simp [*]; done)), H', ⟨by have := HJ4.out; have := HK2.out; have := HK3.out; omega⟩, ⟨by (with_reducible repeat (first | apply Kd.R_alloc | apply Kd.R_drewN | apply Kd.R_drew)); exact Kd.R_mono HO_10.out (fun _ hk => trivial)⟩, ⟨by repeat (first | (with_reducible first | exact HB.out | apply below_alloc | apply pw_below_drewN | apply below_drew1) | exact HB.out)⟩⟩
                          · rw [if_neg c22] at H
                            have c22b0 : decide (x7_2 < t218) = false := decide_eq_false c22
                            clear c22
                            by_cases c25 : t218 = x7_2
                            · rw [if_pos c25] at H
                              have c25b0 : (t218 == x7_2) = true := beq_iff_eq.mpr c25
                              have c25b1 : (t218 != x7_2) = false := bne_eq_false_iff_eq.mpr c25
                              clear c25
                              by_cases c26 : t219 < x8_2
                              · rw [if_pos c26] at H
                                have c26b0 : decide (t219 < x8_2) = true := decide_eq_true c26
                                clear c26
                                have H' := Aside0.mk H
                                clear H
                                obtain ⟨Ao27, co27, eo27⟩ := Kd.R_slice HO_10.out
                                subst eo27
                                go_wp2_with (first | ((with_reducible refine gate_callee (f := 40) rfl ?_); refine goesL_ (some 51) rfl rfl Try.func40 (by kernel_rfl) rfl #[.slice A0 l0.length c0, .slice Ao27 x10_3.length co27] rfl (by (try simp only [List.map_toArray, List.map_cons, List.map_nil]); first | done | rfl | (simp only [List.length_drop, List.length_take]; rfl)) ?_; (with_reducible refine (timeboundref36_Value.calls k3 _ _ l0 _ _ x10_3 t218 t219 t220 _ ?side1 ?side2 ?side3 ?side4 A20.out).mono ?_); (case side1 => repeat (first | exact (Kd.C_below HR0.out HB.out) | (with_reducible refine Kd.C_alloc ?_ _) | (with_reducible refine Kd.C_drewN ?_ _) | (with_reducible refine Kd.C_drew ?_))); (case side2 => exact HC0.out); (case side3 => repeat (first | exact (Kd.R_reads' HO_10.out).2.2 | (with_reducible refine Kd.C_alloc ?_ _) | (with_reducible refine Kd.C_drewN ?_ _) | (with_reducible refine Kd.C_drew ?_))); (case side4 => exact (Kd.R_reads' HO_10.out).2.1); rintro e w28 ⟨rfl, hb⟩; refine ⟨_, rfl, ?_⟩; have n0_ := Aside0.mk (Kd.R_below (by (with_reducible repeat (first | apply Kd.R_alloc | apply Kd.R_drewN | apply Kd.R_drew)); exact HO_6.out) hb); have n1_ := Aside0.mk (Kd.R_below (by (with_reducible repeat (first | apply Kd.R_alloc | apply Kd.R_drewN | apply Kd.R_drew)); exact HO_10.out) hb); have n2_ := Aside0.mk (below_step (by repeat (first | (with_reducible first | exact HB.out | apply below_alloc | apply pw_below_drewN | apply below_drew1) | exact HB.out)) hb); clear HO_6; clear HO_10; clear HB; have HO_6 := n0_; have HO_10 := n1_; have HB := n2_; clear n0_ n1_ n2_; (try clear hb); (try clear hb2); (try clear hk); (try clear hi)))
                                go_roundg k3
                                case measure => have := HJ4.out; have := HK2.out; have := HK3.out; omega
                                case rel => exact ⟨(x10_3), (t218), (t219), (wrap64 (x9_2 + 1)), (by first | rfl | (simp; done) | (simp [*]; done)), (by first | rfl | (simp; done) | (simp [*]; done)), (by first | rfl | (simp; done) | (simp [*]; done)), H', ⟨by have := HJ4.out; have := HK2.out; have := HK3.out; omega⟩, ⟨by (with_reducible repeat (first | apply Kd.R_alloc | apply Kd.R_drewN | apply Kd.R_drew)); exact Kd.R_mono HO_10.out (fun _ hk => trivial)⟩, ⟨by repeat (first | (with_reducible first | exact HB.out | apply below_alloc | apply pw_below_drewN | apply below_drew1) | exact HB.out)⟩⟩
                              · rw [if_neg c26] at H
                                have c26b0 : decide (t219 < x8_2) = false := decide_eq_false c26
                                clear c26
                                by_cases c29 : t219 = x8_2
                                · rw [if_pos c29] at H
                                  have c29b0 : (t219 == x8_2) = true := beq_iff_eq.mpr c29
                                  have c29b1 : (t219 != x8_2) = false := bne_eq_false_iff_eq.mpr c29
                                  clear c29
                                  replace H := Option.bind_eq_some_iff.mp H
                                  obtain ⟨t221, A300, H⟩ := H
                                  replace H : (if t221 = true then (timeboundref36_Best.l0 k3 l0 a1 x10_3 t218 t219 (wrap64 (x9_2 + 1))) else (timeboundref36_Best.l0 k3 l0 a1 x6_2 x7_2 x8_2 (wrap64 (x9_2 + 1)))) = some (r1, r2) := H
                                  have A30 := Aside0.mk A300
                                  clear A300
                                  by_cases c31 : t221 = true
                                  · subst c31
                                    have H1 : (timeboundref36_Best.l0 k3 l0 a1 x10_3 t218 t219 (wrap64 (x9_2 + 1))) = some (r1, r2) := by rw [if_pos rfl] at H; exact H
                                    clear H
                                    have H := H1
                                    clear H1
                                    have H' := Aside0.mk H
                                    clear H
                                    obtain ⟨Ao32, co32, eo32⟩ := Kd.R_slice HO_10.out
                                    subst eo32
                                    go_wp2_with (first | ((with_reducible refine gate_callee (f := 40) rfl ?_); refine goesL_ (some 51) rfl rfl Try.func40 (by kernel_rfl) rfl #[.slice A0 l0.length c0, .slice Ao32 x10_3.length co32] rfl (by (try simp only [List.map_toArray, List.map_cons, List.map_nil]); first | done | rfl | (simp only [List.length_drop, List.length_take]; rfl)) ?_; (with_reducible refine (timeboundref36_Value.calls k3 _ _ l0 _ _ x10_3 t218 t219 t220 _ ?side1 ?side2 ?side3 ?side4 A20.out).mono ?_); (case side1 => repeat (first | exact (Kd.C_below HR0.out HB.out) | (with_reducible refine Kd.C_alloc ?_ _) | (with_reducible refine Kd.C_drewN ?_ _) | (with_reducible refine Kd.C_drew ?_))); (case side2 => exact HC0.out); (case side3 => repeat (first | exact (Kd.R_reads' HO_10.out).2.2 | (with_reducible refine Kd.C_alloc ?_ _) | (with_reducible refine Kd.C_drewN ?_ _) | (with_reducible refine Kd.C_drew ?_))); (case side4 => exact (Kd.R_reads' HO_10.out).2.1); rintro e w33 ⟨rfl, hb⟩; refine ⟨_, rfl, ?_⟩; have n0_ := Aside0.mk (Kd.R_below (by (with_reducible repeat (first | apply Kd.R_alloc | apply Kd.R_drewN | apply Kd.R_drew)); exact HO_6.out) hb); have n1_ := Aside0.mk (Kd.R_below (by (with_reducible repeat (first | apply Kd.R_alloc | apply Kd.R_drewN | apply Kd.R_drew)); exact HO_10.out) hb); have n2_ := Aside0.mk (below_step (by repeat (first | (with_reducible first | exact HB.out | apply below_alloc | apply pw_below_drewN | apply below_drew1) | exact HB.out)) hb); clear HO_6; clear HO_10; clear HB; have HO_6 := n0_; have HO_10 := n1_; have HB := n2_; clear n0_ n1_ n2_; (try clear hb); (try clear hb2); (try clear hk); (try clear hi); obtain ⟨Ao34, co34, eo34⟩ := Kd.R_slice HO_6.out; subst eo34) | (go_at_call 91; (with_reducible refine (timeboundref36_before.calls k3 _ _ x10_3 _ _ x6_2 true _ ?side1 ?side2 ?side3 ?side4 A30.out).mono ?_); (case side1 => repeat (first | exact (Kd.R_reads' HO_10.out).2.2 | (with_reducible refine Kd.C_alloc ?_ _) | (with_reducible refine Kd.C_drewN ?_ _) | (with_reducible refine Kd.C_drew ?_))); (case side2 => exact (Kd.R_reads' HO_10.out).2.1); (case side3 => repeat (first | exact (Kd.R_reads' HO_6.out).2.2 | (with_reducible refine Kd.C_alloc ?_ _) | (with_reducible refine Kd.C_drewN ?_ _) | (with_reducible refine Kd.C_drew ?_))); (case side4 => exact (Kd.R_reads' HO_6.out).2.1); rintro e w' ⟨rfl, ⟨nd, rfl⟩⟩))
                                    go_roundg k3
                                    case measure => have := HJ4.out; have := HK2.out; have := HK3.out; omega
                                    case rel => exact ⟨(x10_3), (t218), (t219), (wrap64 (x9_2 + 1)), (by first | rfl | (simp; done) | (simp [*]; done)), (by first | rfl | (simp; done) | (simp [*]; done)), (by first | rfl | (simp; done) | (simp [*]; done)), H', ⟨by have := HJ4.out; have := HK2.out; have := HK3.out; omega⟩, ⟨by (with_reducible repeat (first | apply Kd.R_alloc | apply Kd.R_drewN | apply Kd.R_drew)); exact Kd.R_mono HO_10.out (fun _ hk => trivial)⟩, ⟨by repeat (first | (with_reducible first | exact HB.out | apply below_alloc | apply pw_below_drewN | apply below_drew1) | exact HB.out)⟩⟩
                                  · replace c31 := Bool.eq_false_iff.mpr c31
                                    subst c31
                                    have H1 : (timeboundref36_Best.l0 k3 l0 a1 x6_2 x7_2 x8_2 (wrap64 (x9_2 + 1))) = some (r1, r2) := by rw [if_neg (show ¬ (false = true) by decide)] at H; exact H
                                    clear H
                                    have H := H1
                                    clear H1
                                    have H' := Aside0.mk H
                                    clear H
                                    obtain ⟨Ao35, co35, eo35⟩ := Kd.R_slice HO_10.out
                                    subst eo35
                                    go_wp2_with (first | ((with_reducible refine gate_callee (f := 40) rfl ?_); refine goesL_ (some 51) rfl rfl Try.func40 (by kernel_rfl) rfl #[.slice A0 l0.length c0, .slice Ao35 x10_3.length co35] rfl (by (try simp only [List.map_toArray, List.map_cons, List.map_nil]); first | done | rfl | (simp only [List.length_drop, List.length_take]; rfl)) ?_; (with_reducible refine (timeboundref36_Value.calls k3 _ _ l0 _ _ x10_3 t218 t219 t220 _ ?side1 ?side2 ?side3 ?side4 A20.out).mono ?_); (case side1 => repeat (first | exact (Kd.C_below HR0.out HB.out) | (with_reducible refine Kd.C_alloc ?_ _) | (with_reducible refine Kd.C_drewN ?_ _) | (with_reducible refine Kd.C_drew ?_))); (case side2 => exact HC0.out); (case side3 => repeat (first | exact (Kd.R_reads' HO_10.out).2.2 | (with_reducible refine Kd.C_alloc ?_ _) | (with_reducible refine Kd.C_drewN ?_ _) | (with_reducible refine Kd.C_drew ?_))); (case side4 => exact (Kd.R_reads' HO_10.out).2.1); rintro e w36 ⟨rfl, hb⟩; refine ⟨_, rfl, ?_⟩; have n0_ := Aside0.mk (Kd.R_below (by (with_reducible repeat (first | apply Kd.R_alloc | apply Kd.R_drewN | apply Kd.R_drew)); exact HO_6.out) hb); have n1_ := Aside0.mk (Kd.R_below (by (with_reducible repeat (first | apply Kd.R_alloc | apply Kd.R_drewN | apply Kd.R_drew)); exact HO_10.out) hb); have n2_ := Aside0.mk (below_step (by repeat (first | (with_reducible first | exact HB.out | apply below_alloc | apply pw_below_drewN | apply below_drew1) | exact HB.out)) hb); clear HO_6; clear HO_10; clear HB; have HO_6 := n0_; have HO_10 := n1_; have HB := n2_; clear n0_ n1_ n2_; (try clear hb); (try clear hb2); (try clear hk); (try clear hi); obtain ⟨Ao37, co37, eo37⟩ := Kd.R_slice HO_6.out; subst eo37) | (go_at_call 91; (with_reducible refine (timeboundref36_before.calls k3 _ _ x10_3 _ _ x6_2 false _ ?side1 ?side2 ?side3 ?side4 A30.out).mono ?_); (case side1 => repeat (first | exact (Kd.R_reads' HO_10.out).2.2 | (with_reducible refine Kd.C_alloc ?_ _) | (with_reducible refine Kd.C_drewN ?_ _) | (with_reducible refine Kd.C_drew ?_))); (case side2 => exact (Kd.R_reads' HO_10.out).2.1); (case side3 => repeat (first | exact (Kd.R_reads' HO_6.out).2.2 | (with_reducible refine Kd.C_alloc ?_ _) | (with_reducible refine Kd.C_drewN ?_ _) | (with_reducible refine Kd.C_drew ?_))); (case side4 => exact (Kd.R_reads' HO_6.out).2.1); rintro e w' ⟨rfl, ⟨nd, rfl⟩⟩))
                                    go_roundg k3
                                    case measure => have := HJ4.out; have := HK2.out; have := HK3.out; omega
                                    case rel => exact ⟨(x6_2), (x7_2), (x8_2), (wrap64 (x9_2 + 1)), (by first | rfl | (simp; done) | (simp [*]; done)), (by first | rfl | (simp; done) | (simp [*]; done)), (by first | rfl | (simp; done) | (simp [*]; done)), H', ⟨by have := HJ4.out; have := HK2.out; have := HK3.out; omega⟩, ⟨by (with_reducible repeat (first | apply Kd.R_alloc | apply Kd.R_drewN | apply Kd.R_drew)); exact Kd.R_mono HO_6.out (fun _ hk => trivial)⟩, ⟨by repeat (first | (with_reducible first | exact HB.out | apply below_alloc | apply pw_below_drewN | apply below_drew1) | exact HB.out)⟩⟩
                                · rw [if_neg c29] at H
                                  have c29b0 : (t219 == x8_2) = false := beq_eq_false_iff_ne.mpr c29
                                  have c29b1 : (t219 != x8_2) = true := bne_iff_ne.mpr c29
                                  have H' := Aside0.mk H
                                  clear H
                                  obtain ⟨Ao38, co38, eo38⟩ := Kd.R_slice HO_10.out
                                  subst eo38
                                  go_wp2_with (first | ((with_reducible refine gate_callee (f := 40) rfl ?_); refine goesL_ (some 51) rfl rfl Try.func40 (by kernel_rfl) rfl #[.slice A0 l0.length c0, .slice Ao38 x10_3.length co38] rfl (by (try simp only [List.map_toArray, List.map_cons, List.map_nil]); first | done | rfl | (simp only [List.length_drop, List.length_take]; rfl)) ?_; (with_reducible refine (timeboundref36_Value.calls k3 _ _ l0 _ _ x10_3 t218 t219 t220 _ ?side1 ?side2 ?side3 ?side4 A20.out).mono ?_); (case side1 => repeat (first | exact (Kd.C_below HR0.out HB.out) | (with_reducible refine Kd.C_alloc ?_ _) | (with_reducible refine Kd.C_drewN ?_ _) | (with_reducible refine Kd.C_drew ?_))); (case side2 => exact HC0.out); (case side3 => repeat (first | exact (Kd.R_reads' HO_10.out).2.2 | (with_reducible refine Kd.C_alloc ?_ _) | (with_reducible refine Kd.C_drewN ?_ _) | (with_reducible refine Kd.C_drew ?_))); (case side4 => exact (Kd.R_reads' HO_10.out).2.1); rintro e w39 ⟨rfl, hb⟩; refine ⟨_, rfl, ?_⟩; have n0_ := Aside0.mk (Kd.R_below (by (with_reducible repeat (first | apply Kd.R_alloc | apply Kd.R_drewN | apply Kd.R_drew)); exact HO_6.out) hb); have n1_ := Aside0.mk (Kd.R_below (by (with_reducible repeat (first | apply Kd.R_alloc | apply Kd.R_drewN | apply Kd.R_drew)); exact HO_10.out) hb); have n2_ := Aside0.mk (below_step (by repeat (first | (with_reducible first | exact HB.out | apply below_alloc | apply pw_below_drewN | apply below_drew1) | exact HB.out)) hb); clear HO_6; clear HO_10; clear HB; have HO_6 := n0_; have HO_10 := n1_; have HB := n2_; clear n0_ n1_ n2_; (try clear hb); (try clear hb2); (try clear hk); (try clear hi)))
                                  go_roundg k3
                                  case measure => have := HJ4.out; have := HK2.out; have := HK3.out; omega
                                  case rel => exact ⟨(x6_2), (x7_2), (x8_2), (wrap64 (x9_2 + 1)), (by first | rfl | (simp; done) | (simp [*]; done)), (by first | rfl | (simp; done) | (simp [*]; done)), (by first | rfl | (simp; done) | (simp [*]; done)), H', ⟨by have := HJ4.out; have := HK2.out; have := HK3.out; omega⟩, ⟨by (with_reducible repeat (first | apply Kd.R_alloc | apply Kd.R_drewN | apply Kd.R_drew)); exact Kd.R_mono HO_6.out (fun _ hk => trivial)⟩, ⟨by repeat (first | (with_reducible first | exact HB.out | apply below_alloc | apply pw_below_drewN | apply below_drew1) | exact HB.out)⟩⟩
                            · rw [if_neg c25] at H
                              have c25b0 : (t218 == x7_2) = false := beq_eq_false_iff_ne.mpr c25
                              have c25b1 : (t218 != x7_2) = true := bne_iff_ne.mpr c25
                              have H' := Aside0.mk H
                              clear H
                              obtain ⟨Ao40, co40, eo40⟩ := Kd.R_slice HO_10.out
                              subst eo40
                              go_wp2_with (first | ((with_reducible refine gate_callee (f := 40) rfl ?_); refine goesL_ (some 51) rfl rfl Try.func40 (by kernel_rfl) rfl #[.slice A0 l0.length c0, .slice Ao40 x10_3.length co40] rfl (by (try simp only [List.map_toArray, List.map_cons, List.map_nil]); first | done | rfl | (simp only [List.length_drop, List.length_take]; rfl)) ?_; (with_reducible refine (timeboundref36_Value.calls k3 _ _ l0 _ _ x10_3 t218 t219 t220 _ ?side1 ?side2 ?side3 ?side4 A20.out).mono ?_); (case side1 => repeat (first | exact (Kd.C_below HR0.out HB.out) | (with_reducible refine Kd.C_alloc ?_ _) | (with_reducible refine Kd.C_drewN ?_ _) | (with_reducible refine Kd.C_drew ?_))); (case side2 => exact HC0.out); (case side3 => repeat (first | exact (Kd.R_reads' HO_10.out).2.2 | (with_reducible refine Kd.C_alloc ?_ _) | (with_reducible refine Kd.C_drewN ?_ _) | (with_reducible refine Kd.C_drew ?_))); (case side4 => exact (Kd.R_reads' HO_10.out).2.1); rintro e w41 ⟨rfl, hb⟩; refine ⟨_, rfl, ?_⟩; have n0_ := Aside0.mk (Kd.R_below (by (with_reducible repeat (first | apply Kd.R_alloc | apply Kd.R_drewN | apply Kd.R_drew)); exact HO_6.out) hb); have n1_ := Aside0.mk (Kd.R_below (by (with_reducible repeat (first | apply Kd.R_alloc | apply Kd.R_drewN | apply Kd.R_drew)); exact HO_10.out) hb); have n2_ := Aside0.mk (below_step (by repeat (first | (with_reducible first | exact HB.out | apply below_alloc | apply pw_below_drewN | apply below_drew1) | exact HB.out)) hb); clear HO_6; clear HO_10; clear HB; have HO_6 := n0_; have HO_10 := n1_; have HB := n2_; clear n0_ n1_ n2_; (try clear hb); (try clear hb2); (try clear hk); (try clear hi)))
                              go_roundg k3
                              case measure => have := HJ4.out; have := HK2.out; have := HK3.out; omega
                              case rel => exact ⟨(x6_2), (x7_2), (x8_2), (wrap64 (x9_2 + 1)), (by first | rfl | (simp; done) | (simp [*]; done)), (by first | rfl | (simp; done) | (simp [*]; done)), (by first | rfl | (simp; done) | (simp [*]; done)), H', ⟨by have := HJ4.out; have := HK2.out; have := HK3.out; omega⟩, ⟨by (with_reducible repeat (first | apply Kd.R_alloc | apply Kd.R_drewN | apply Kd.R_drew)); exact Kd.R_mono HO_6.out (fun _ hk => trivial)⟩, ⟨by repeat (first | (with_reducible first | exact HB.out | apply below_alloc | apply pw_below_drewN | apply below_drew1) | exact HB.out)⟩⟩
                        · rw [if_neg c21] at H
                          have c21b0 : decide (t219 ≤ a1) = false := decide_eq_false c21
                          clear c21
                          have H' := Aside0.mk H
                          clear H
                          obtain ⟨Ao42, co42, eo42⟩ := Kd.R_slice HO_10.out
                          subst eo42
                          go_wp2_with (first | ((with_reducible refine gate_callee (f := 40) rfl ?_); refine goesL_ (some 51) rfl rfl Try.func40 (by kernel_rfl) rfl #[.slice A0 l0.length c0, .slice Ao42 x10_3.length co42] rfl (by (try simp only [List.map_toArray, List.map_cons, List.map_nil]); first | done | rfl | (simp only [List.length_drop, List.length_take]; rfl)) ?_; (with_reducible refine (timeboundref36_Value.calls k3 _ _ l0 _ _ x10_3 t218 t219 t220 _ ?side1 ?side2 ?side3 ?side4 A20.out).mono ?_); (case side1 => repeat (first | exact (Kd.C_below HR0.out HB.out) | (with_reducible refine Kd.C_alloc ?_ _) | (with_reducible refine Kd.C_drewN ?_ _) | (with_reducible refine Kd.C_drew ?_))); (case side2 => exact HC0.out); (case side3 => repeat (first | exact (Kd.R_reads' HO_10.out).2.2 | (with_reducible refine Kd.C_alloc ?_ _) | (with_reducible refine Kd.C_drewN ?_ _) | (with_reducible refine Kd.C_drew ?_))); (case side4 => exact (Kd.R_reads' HO_10.out).2.1); rintro e w43 ⟨rfl, hb⟩; refine ⟨_, rfl, ?_⟩; have n0_ := Aside0.mk (Kd.R_below (by (with_reducible repeat (first | apply Kd.R_alloc | apply Kd.R_drewN | apply Kd.R_drew)); exact HO_6.out) hb); have n1_ := Aside0.mk (Kd.R_below (by (with_reducible repeat (first | apply Kd.R_alloc | apply Kd.R_drewN | apply Kd.R_drew)); exact HO_10.out) hb); have n2_ := Aside0.mk (below_step (by repeat (first | (with_reducible first | exact HB.out | apply below_alloc | apply pw_below_drewN | apply below_drew1) | exact HB.out)) hb); clear HO_6; clear HO_10; clear HB; have HO_6 := n0_; have HO_10 := n1_; have HB := n2_; clear n0_ n1_ n2_; (try clear hb); (try clear hb2); (try clear hk); (try clear hi)))
                          go_roundg k3
                          case measure => have := HJ4.out; have := HK2.out; have := HK3.out; omega
                          case rel => exact ⟨(x6_2), (x7_2), (x8_2), (wrap64 (x9_2 + 1)), (by first | rfl | (simp; done) | (simp [*]; done)), (by first | rfl | (simp; done) | (simp [*]; done)), (by first | rfl | (simp; done) | (simp [*]; done)), H', ⟨by have := HJ4.out; have := HK2.out; have := HK3.out; omega⟩, ⟨by (with_reducible repeat (first | apply Kd.R_alloc | apply Kd.R_drewN | apply Kd.R_drew)); exact Kd.R_mono HO_6.out (fun _ hk => trivial)⟩, ⟨by repeat (first | (with_reducible first | exact HB.out | apply below_alloc | apply pw_below_drewN | apply below_drew1) | exact HB.out)⟩⟩
                · rw [if_neg c12] at H
                  have c12b0 : decide (x9_2 < (ji11)) = false := decide_eq_false c12
                  clear c12
                  simp only [Option.some.injEq, Prod.mk.injEq] at H
                  obtain ⟨rfl, rfl⟩ := H
                  go_wp2
                  go_ret2
                  exact ⟨_, by first | rfl | (simp [errW_none, errW_some] <;> rfl) | (simp only [← hji9, ← hji11]; first | rfl | (simp [errW_none, errW_some] <;> rfl)) | (simp [*, errW_none, errW_some] <;> rfl), by (with_reducible repeat (first | apply Kd.R_alloc | apply Kd.R_drewN | apply Kd.R_drew)); exact HO_6.out, by repeat (first | (with_reducible first | exact HB.out | apply below_alloc | apply pw_below_drewN | apply below_drew1) | exact HB.out)⟩
              · rw [if_neg c10] at H
                exact absurd H (by simp)
  · replace c4 := Bool.eq_false_iff.mpr c4
    subst c4
    have H1 : (some (([] : List Int), 43)) = some (r1, r2) := by rw [if_neg (show ¬ (false = true) by decide)] at H; exact H
    clear H
    have H := H1
    clear H1
    simp only [Option.some.injEq, Prod.mk.injEq] at H
    obtain ⟨rfl, rfl⟩ := H
    go_enter Try.func38, Try.ntmps38
    go_wp2_with (first | ((with_reducible refine gate_callee (f := 35) rfl ?_); refine goesL_ (some 16) rfl rfl Try.func35 (by kernel_rfl) rfl #[.slice A0 l0.length c0] rfl (by (try simp only [List.map_toArray, List.map_cons, List.map_nil]); first | done | rfl | (simp only [List.length_drop, List.length_take]; rfl)) ?_; (with_reducible refine (timeboundref36_Valid.calls k _ _ l0 false _ ?side1 ?side2 A3.out).mono ?_); (case side1 => repeat (first | exact HR0.out | (with_reducible refine Kd.C_alloc ?_ _) | (with_reducible refine Kd.C_drewN ?_ _) | (with_reducible refine Kd.C_drew ?_))); (case side2 => exact HC0.out); rintro e w44 ⟨rfl, hb⟩; refine ⟨_, rfl, ?_⟩; have n0_ := Aside0.mk (below_step (by repeat (first | (with_reducible first | exact HB.out | apply below_alloc | apply pw_below_drewN | apply below_drew1) | exact HB.out)) hb); clear HB; have HB := n0_; clear n0_; (try clear hb); (try clear hb2); (try clear hk); (try clear hi)))
    go_ret2
    exact ⟨_, by first | rfl | (simp [errW_none, errW_some] <;> rfl) | (simp [*, errW_none, errW_some] <;> rfl), by first | exact Kd.R_nil _ _ _ _ _ | exact Kd.N_nil _ _ _ _ _ | exact Kd.V_nil _ _ _ _ _ | exact Kd.Q_nil _ _ _ _ _ | exact Kd.S_nil _ _ _ _ _, by repeat (first | (with_reducible first | exact HB.out | apply below_alloc | apply pw_below_drewN | apply below_drew1) | exact HB.out)⟩

/-! ### timeboundlaw36_ScratchBest: function 6 -/
section
variable {H : Type} {enc : TypeId × Value → H} {P : Program} {w : World} {base : Nat} {spare : Nat → Bool} {held : Bool} {t e : TypeId} {α β : Type} {d : Kd α}
/-- What is read as a type is a value of a kind. -/
def Op (enc : TypeId × Value → H) (P : Program) (w : World) (base : Nat) (spare : Nat → Bool) (held : Bool) (t : TypeId) {α : Type} (d : Kd α) : Prop :=
  ∀ (fuel : Nat) (cs : List Value) (x : DataW H × List MemPlace), DataW.trod enc P w base spare held fuel t cs = some x → ∃ v, d.K w v cs
theorem Op.int {k : IntKind} (ht : P.underlying t = some (.int k)) : Op enc P w base spare held t (Kd.int k) := fun fuel cs x h => by
  obtain ⟨n, rfl, _⟩ := DataW.trod_int ht h
  exact ⟨n, rfl⟩
theorem Op.bool (ht : P.underlying t = some .bool) : Op enc P w base spare held t Kd.bool := fun fuel cs x h => by
  obtain ⟨n, rfl, _⟩ := DataW.trod_bool ht h
  exact ⟨n, rfl⟩
/-- Fields in line, from a cell on. -/
def OpF (enc : TypeId × Value → H) (P : Program) (w : World) (base : Nat) (spare : Nat → Bool) (held : Bool) (fs : List Field) (off : Nat) {α : Type} (d : Kd α) : Prop :=
  ∀ cs : List Value, (∀ f, f ∈ fs → ∃ n y, DataW.trod enc P w base spare held n f.type ((cs.drop f.offset).take (P.cellsOf f.type)) = some y) → cs.length = off + d.sz → ∃ v, d.K w v (cs.drop off)
theorem OpF.last {f : Field} {off : Nat} (ho : f.offset = off) (h : Op enc P w base spare held f.type d) (hs : P.cellsOf f.type = d.sz) : OpF enc P w base spare held [f] off d := fun cs hf hl => by
  obtain ⟨n, y, hy⟩ := hf f (List.mem_singleton.2 rfl)
  rw [ho, hs, List.take_of_length_le (by rw [List.length_drop]; omega)] at hy
  exact h _ _ _ hy
theorem OpF.cons {f : Field} {fs : List Field} {off : Nat} {a : Kd α} {b : Kd β} (ho : f.offset = off) (h : Op enc P w base spare held f.type a) (hs : P.cellsOf f.type = a.sz) (hr : OpF enc P w base spare held fs (off + a.sz) b) : OpF enc P w base spare held (f :: fs) off (Kd.pair a b) := fun cs hf hl => by
  obtain ⟨n, y, hy⟩ := hf f List.mem_cons_self
  rw [ho, hs] at hy
  obtain ⟨v, hv⟩ := h _ _ _ hy
  have hl2 : cs.length = off + a.sz + b.sz := by rw [hl]; show off + (a.sz + b.sz) = _; omega
  obtain ⟨u, hu⟩ := hr cs (fun g hg => hf g (List.mem_cons_of_mem _ hg)) hl2
  exact ⟨(v, u), (cs.drop off).take a.sz, (cs.drop off).drop a.sz, (List.take_append_drop _ _).symm, hv, by rw [List.drop_drop]; exact hu⟩
theorem Op.struct {fs : Array Field} (ht : P.underlying t = some (.struct fs)) (h : OpF enc P w base spare held fs.toList 0 d) (hs : P.cellsOf t = d.sz) : Op enc P w base spare held t d := fun fuel cs x hx => by
  obtain ⟨xs, n, _, _, hl, hlen, hf⟩ := DataW.trod_struct ht hx
  obtain ⟨v, hv⟩ := h cs (fun f hm => by
    obtain ⟨i, hi, rfl⟩ := List.mem_iff_getElem.1 hm
    have hi2 : i < fs.size := by simpa using hi
    have hx := hf i fs.toList[i] (by rw [Array.getElem_toList]; exact Array.getElem?_eq_getElem hi2)
    exact ⟨n, xs[i]'(by omega), hx.trans (List.getElem?_eq_getElem (by omega))⟩) (by rw [hl, hs]; omega)
  exact ⟨v, by simpa using hv⟩
theorem Op.iso (f : β → α) (g : α → β) (hfg : ∀ x, f (g x) = x) (h : Op enc P w base spare held t d) : Op enc P w base spare held t (Kd.iso d f) := fun fuel cs x hx => by
  obtain ⟨v, hv⟩ := h _ _ _ hx
  exact ⟨g v, by show d.K w (f (g v)) cs; rw [hfg]; exact hv⟩
theorem listed {Q : Nat → α → Prop} (n : Nat) (h : ∀ i, i < n → ∃ v, Q i v) : ∃ zs : List α, zs.length = n ∧ ∀ j p, zs[j]? = some p → Q j p := by
  induction n with
  | zero => exact ⟨[], rfl, fun j p hj => by simp at hj⟩
  | succ n ih =>
    obtain ⟨zs, hz, hq⟩ := ih (fun i hi => h i (by omega))
    obtain ⟨v, hv⟩ := h n (by omega)
    refine ⟨zs ++ [v], by simp [hz], fun j p hj => ?_⟩
    by_cases hlt : j < zs.length
    · rw [List.getElem?_append_left hlt] at hj
      exact hq j p hj
    · rw [List.getElem?_append_right (by omega)] at hj
      have hj0 : j - zs.length = 0 := by
        have := (List.getElem?_eq_some_iff.1 hj).1
        simp at this; omega
      rw [hj0] at hj
      have : v = p := by simpa using hj
      subst this
      obtain rfl : j = n := by omega
      exact hv
theorem Op.row (ht : P.underlying t = some (.slice e)) (h : Op enc P w base spare held e d) (hs : P.cellsOf e = d.sz) {fuel : Nat} {cs : List Value} {x : DataW H × List MemPlace} (hx : DataW.trod enc P w base spare held fuel t cs = some x) :
    ∃ (A : Option Addr) (zs : List α) (c : Nat), cs = [.slice A zs.length c] ∧ zs.length ≤ c ∧ Kd.C d w A zs.length zs := by
  rcases Go.Deep.open_slice ht hx with ⟨rfl, _⟩ | ⟨a, len, cap, m, n, D, Pl, rfl, hb, hl, hm, hmm, rfl, hi⟩
  · exact ⟨none, [], 0, rfl, Nat.le_refl _, rfl, by simp, fun h => absurd h (Nat.lt_irrefl _)⟩
  · obtain ⟨zs, hz, hzs⟩ := listed (Q := fun i v => ∃ c, c.length = d.sz ∧ d.K w v c ∧ ∀ j u, c[j]? = some u → w.cell? (a.add (i * d.sz + j)) = some u) len (fun i hi' => by
      obtain ⟨cs', hc, ht'⟩ := hi i (by rw [hmm]; split <;> omega)
      obtain ⟨v, hv⟩ := h _ _ _ ht'
      obtain ⟨_, hcl, hat⟩ := World.cells?_some hc
      refine ⟨v, cs', by rw [hcl, hs], hv, fun j u hj => ?_⟩
      have hjl : j < P.cellsOf e := by rw [← hcl]; exact (List.getElem?_eq_some_iff.1 hj).1
      have hh := hat j hjl
      rw [Go.Deep.add_add, hs, hj] at hh
      exact hh)
    subst hz
    exact ⟨some a, zs, cap, rfl, hl, rfl, by unfold maxLen at hm; omega, fun _ => ⟨a, rfl, hzs⟩⟩
theorem op74 : Op enc Try.prog w base spare held 74 k74 :=
  Op.iso (fun x : S74 => (x.f0, x.f1)) (fun x => ⟨x.1, x.2⟩) (fun _ => rfl) (Op.struct Try.underlying74 (OpF.cons rfl (Op.int Try.underlying3) (by kernel_rfl) (OpF.last rfl (Op.int Try.underlying3) (by kernel_rfl))) (by kernel_rfl))
theorem op76 : Op enc Try.prog w base spare held 76 k76 :=
  Op.iso (fun x : S76 => (x.f0, x.f1, x.f2, x.f3)) (fun x => ⟨x.1, x.2.1, x.2.2.1, x.2.2.2⟩) (fun _ => rfl) (Op.struct Try.underlying76 (OpF.cons rfl (Op.bool Try.underlying4) (by kernel_rfl) (OpF.cons rfl op74 (by kernel_rfl) (OpF.cons rfl (Op.int Try.underlying3) (by kernel_rfl) (OpF.last rfl (Op.int Try.underlying3) (by kernel_rfl))))) (by kernel_rfl))
theorem open_raw0 {a : Option Addr} {len cap : Nat} {x : DataW H} {p : List MemPlace} (h : DataW.Trod enc Try.prog w base spare held 51 (.slice a len cap) x p) : ∃ zs : List S76, len = zs.length ∧ zs.length ≤ cap ∧ Kd.C k76 w a zs.length zs := by
  obtain ⟨fuel, hf⟩ := h
  obtain ⟨A, zs, c, hcs, hle, hC⟩ := Op.row Try.underlying51 op76 (by kernel_rfl) hf
  simp [Value.cells] at hcs
  obtain ⟨rfl, rfl, rfl⟩ := hcs
  exact ⟨zs, rfl, hle, hC⟩
end
/-- A block of whole numbers, as a row. -/
theorem C_blk (l : List Int) {W : World} {b : Nat} {t : TypeId} (h : W.heap[b]? = some (.cells (l.map (Value.int .i64)).toArray t (0, 0))) (hl : l.length ≤ 1000) : Kd.C (Kd.int .i64) W (some ⟨b, 0, none⟩) l.length l := by
  refine ⟨rfl, by omega, fun _ => ⟨_, rfl, fun j p hj => ⟨[.int .i64 p], rfl, rfl, fun i u hi => ?_⟩⟩⟩
  have hi0 : i = 0 := by
    have := (List.getElem?_eq_some_iff.1 hi).1
    simp at this; omega
  subst hi0
  obtain rfl : Value.int .i64 p = u := by simpa using hi
  have e : (⟨b, 0, none⟩ : Addr).add (j * (Kd.int .i64).sz + 0) = ⟨b, j, none⟩ := by
    show (⟨b, 0, none⟩ : Addr).add (j * 1 + 0) = _
    unfold Addr.add
    by_cases z : j = 0
    · subst z; rfl
    · rw [if_neg (by omega)]; simp
  rw [e, blk_cell h j]
  simp [hj]
theorem heap76 : Kd.Heap k76 := Kd.heap_iso _ (Kd.heap_pair Kd.heap_bool (Kd.heap_pair (Kd.heap_iso _ (Kd.heap_pair (Kd.heap_int _) (Kd.heap_int _))) (Kd.heap_pair (Kd.heap_int _) (Kd.heap_int _))))
/-- Both say the same of items, of words, of a choice. -/
def Val36 (k : Nat) (y : List S76) : Prop := ∃ b, scratch_Valid.f y = some b ∧ timeboundref36_Valid.f k y = some b
def Best36 (k : Nat) (y : List S76) (n : Int) : Prop := ∃ c e, scratch_Best.f k y n = some (c, e) ∧ timeboundref36_Best.f k y n = some (c, e) ∧ timeboundref01_SameInts.f k c c = some true
def Value36 (k : Nat) (y : List S76) (c : List Int) : Prop := ∃ g n ok, scratch_Value.f k y c = some (g, n, ok) ∧ timeboundref36_Value.f k y c = some (g, n, ok)
/-- What is asked of the lists of items, one after the other. -/
def Asks36 (k : Nat) (s rc : List Int) (words : Int) : List (List S76) → Int → Prop
  | [], _ => True
  | y :: ys, q => ∃ v q1 m t q2, timeboundmake_Deck_Next.f s q 40 = some (v, q1) ∧ timeboundmake_Mod.f words 260 = some m ∧ timeboundmake_Deck_Next.f s q1 3 = some (t, q2) ∧ Val36 k y ∧
      Best36 k y words ∧ Best36 k y v ∧ Best36 k y (wrap64 (m - 1)) ∧ Value36 k y rc ∧ Value36 k y [0, 2] ∧ Value36 k y [t] ∧ Value36 k y [1, 0] ∧ Asks36 k s rc words ys q2
def timeboundlaw36_ScratchBest.Pure : Prop := (∃ k, timeboundlaw36_awake.f k = some true) ∧ ∀ (l0 : List S76) (l1 l2 : List Int) (a3 a4 a5 : Int), l0.length ≤ 12 → l1.length ≤ 30 → l2.length * 8 ≤ 140737488351232 → (Lit.int .i64 a3).wf = true →
  ∃ k x q z, timeboundmake2_Items.f k l2 0 = some (x, q) ∧ timeboundlaw36_spoilt.f x a4 a5 = some z ∧ Asks36 k l2 l1 a3 [x, z, l0] q
/-- What the law holds while it runs: the deck, the three lists of items; all of it lies below block N. -/
structure LB (w W : World) (g : Nat) (l : List Int) (p : Int) (b50 N : Nat) (A1 : Option Addr) (c1 : Nat) (y1 : List S76) (A2 : Option Addr) (c2 : Nat) (y2 : List S76) (A3 : Option Addr) (c3 : Nat) (y3 : List S76) : Prop where
  I : IsS111 w W g l p
  B : Below w.heap.size w W
  M : W.heap[b50]? = some (.cells #[.slice A1 y1.length c1, .slice A2 y2.length c2, .slice A3 y3.length c3] 51 (0, 0))
  ne : b50 ≠ g
  R1 : Kd.F k76 W (fun k_ => k_ ≠ g ∧ k_ < N) A1 y1.length y1
  R2 : Kd.F k76 W (fun k_ => k_ ≠ g ∧ k_ < N) A2 y2.length y2
  R3 : Kd.F k76 W (fun k_ => k_ ≠ g ∧ k_ < N) A3 y3.length y3
section
variable {w W W' : World} {g b50 N : Nat} {l : List Int} {p p' : Int} {A1 A2 A3 : Option Addr} {c1 c2 c3 : Nat} {y1 y2 y3 : List S76}
theorem LB.below (h : LB w W g l p b50 N A1 c1 y1 A2 c2 y2 A3 c3 y3) (hb : Below W.heap.size W W') : LB w W' g l p b50 N A1 c1 y1 A2 c2 y2 A3 c3 y3 :=
  ⟨h.I.below hb, below_step h.B hb, blk_below h.M hb, h.ne, Kd.F_below h.R1 hb, Kd.F_below h.R2 hb, Kd.F_below h.R3 hb⟩
theorem LB.alloc (h : LB w W g l p b50 N A1 c1 y1 A2 c2 y2 A3 c3 y3) (o : Obj) : LB w (W.alloc o) g l p b50 N A1 c1 y1 A2 c2 y2 A3 c3 y3 := h.below (below_alloc (Below.refl _ _) o)
theorem LB.call (h : LB w W g l p b50 N A1 c1 y1 A2 c2 y2 A3 c3 y3) (hi : IsS111 w W' g l p') (hb : Below w.heap.size w W') (hk : KeepBut W W' g none) : LB w W' g l p' b50 N A1 c1 y1 A2 c2 y2 A3 c3 y3 :=
  ⟨hi, hb, KeepBut.blk hk h.M h.ne (by simp), h.ne, Kd.F_keep h.R1 hk (fun _ hk => hk.1), Kd.F_keep h.R2 hk (fun _ hk => hk.1), Kd.F_keep h.R3 hk (fun _ hk => hk.1)⟩
/-- The list of items at an index: where it lies. -/
theorem LB.pick (w : World) (g : Nat) (l : List Int) (b50 N : Nat) (A1 : Option Addr) (c1 : Nat) (y1 : List S76) (A2 : Option Addr) (c2 : Nat) (y2 : List S76) (A3 : Option Addr) (c3 : Nat) (y3 : List S76) (h1 : y1.length ≤ c1) (h2 : y2.length ≤ c2) (h3 : y3.length ≤ c3) (j : Nat) (hj : j < 3) : ∃ A c y, [y1, y2, y3].drop j = y :: [y1, y2, y3].drop (j + 1) ∧ y.length ≤ c ∧
    ∀ W p, LB w W g l p b50 N A1 c1 y1 A2 c2 y2 A3 c3 y3 → W.cell? ⟨b50, j, none⟩ = some (.slice A y.length c) ∧ Kd.C k76 W A y.length y := by
  rcases j with _ | _ | _ | j
  · exact ⟨A1, c1, y1, rfl, h1, fun W p h => ⟨blk_cell h.M 0, Kd.F_now h.R1⟩⟩
  · exact ⟨A2, c2, y2, rfl, h2, fun W p h => ⟨blk_cell h.M 1, Kd.F_now h.R2⟩⟩
  · exact ⟨A3, c3, y3, rfl, h3, fun W p h => ⟨blk_cell h.M 2, Kd.F_now h.R3⟩⟩
  · omega
end
set_option maxHeartbeats 8000000 in
set_option maxRecDepth 100000 in
theorem timeboundlaw36_ScratchBest.any (P : timeboundlaw36_ScratchBest.Pure) (A0 : Option Addr) (c0 : Nat) (l0 : List S76) (A1 : Option Addr) (c1 : Nat) (l1 : List Int) (A2 : Option Addr) (c2 : Nat) (l2 : List Int) (a3 a4 a5 : Int) (w : World)
    (hr0 : Kd.C k76 w A0 l0.length l0) (hc0 : l0.length ≤ c0) (hr1 : Kd.C (Kd.int .i64) w A1 l1.length l1) (hc1 : l1.length ≤ c1) (hr2 : Kd.C (Kd.int .i64) w A2 l2.length l2) (hc2 : l2.length ≤ c2) (y1 : l1.length * 8 ≤ 140737488351232) (y2 : l2.length * 8 ≤ 140737488351232) (w3 : (Lit.int .i64 a3).wf = true) (w4 : (Lit.int .i64 a4).wf = true) (w5 : (Lit.int .i64 a5).wf = true) :
    Calls Try.prog 6 #[.slice A0 l0.length c0, .slice A1 l1.length c1, .slice A2 l2.length c2, .int .i64 a3, .int .i64 a4, .int .i64 a5] w fun e w' => e = .returned (.bool true) ∧ Below w.heap.size w w' := by
  obtain ⟨⟨ka, haw⟩, P⟩ := P
  have HAW := Aside0.mk (fun W => timeboundlaw36_awake.calls ka true W haw)
  have HR0 := Aside0.mk hr0
  have HR1 := Aside0.mk hr1
  have HR2 := Aside0.mk hr2
  clear hr0 hr1 hr2 haw
  by_cases g1 : l0.length ≤ 12
  · by_cases g2 : l1.length ≤ 30
    · have PP := P l0 l1 l2 a3 a4 a5 g1 g2 y2 w3
      clear P
      obtain ⟨k, x, q, z, e1, e2, hQ⟩ := PP
      have E1 := Aside0.mk e1
      have E2 := Aside0.mk e2
      have HQ := Aside0.mk hQ
      have d1 : decide (12 < (l0.length : Int)) = false := decide_eq_false (by omega)
      have d2 : decide (30 < (l1.length : Int)) = false := decide_eq_false (by omega)
      have d3 : decide (12 < l0.length) = false := decide_eq_false (by omega)
      have d4 : decide (30 < l1.length) = false := decide_eq_false (by omega)
      clear e1 e2 hQ
      go_enter Try.func6, Try.ntmps6
      go_wp2_with fail
      refine (timeboundmake_New.calls A2 c2 l2 l2 0 w w (Below.refl _ _) HR2.out hc2 rfl).mono ?_
      rintro e w1 ⟨g, rfl, hi, hb, hb2⟩
      have HI := Aside0.mk hi
      have HB := Aside0.mk hb
      clear hi hb hb2
      go_wp2_with fail
      refine (timeboundmake2_Items.calls k g l2 0 x q w w1 HI.out HB.out E1.out).mono ?_
      rintro e w2 ⟨u1, rfl, hR, hi, hb, hk⟩
      obtain ⟨Ax, cx, rfl, hlx, hCx⟩ := Kd.R_reads hR
      have HX := Aside0.mk (Kd.F_mono (ok' := fun k_ => k_ ≠ g) (Kd.R_F (hi.apart hR (by decide))) (fun k hk => hk.2))
      have HCx := Aside0.mk hCx
      clear HI HB
      have HI := Aside0.mk hi
      have HB := Aside0.mk hb
      clear hR hi hb hk hCx w1 E1
      go_wp2_with fail
      refine (timeboundlaw36_spoilt.calls Ax cx x a4 a5 z w2 HCx.out hlx E2.out).mono ?_
      rintro e w3 ⟨u2, rfl, hR, hb⟩
      obtain ⟨Az, cz, rfl, hlz, hCz⟩ := Kd.R_reads hR
      have hi3 := HI.out.below hb
      have HZ := Kd.F_mono (ok' := fun k_ => k_ ≠ g) (Kd.R_F (hi3.apart hR (by decide))) (fun k hk => hk.2)
      have h0 := Kd.F_mono (ok' := fun k_ => k_ ≠ g ∧ k_ < w3.heap.size + 1) (Kd.F_below (Kd.C_F heap76 HR0.out) (below_step HB.out hb)) (fun k hk => ⟨fun h => by have := HI.out.lt; have := HI.out.ge; omega, by have := (below_step HB.out hb).size; omega⟩)
      have H5 := Aside0.mk (LB.mk (N := w3.heap.size + 1) (hi3.alloc (.cells #[.slice Ax x.length cx, .slice Az z.length cz, .slice A0 l0.length c0] 51 (0, 0))) (below_alloc (below_step HB.out hb) _) (heap_alloc_last w3 _) (Nat.ne_of_gt hi3.lt)
        (Kd.F_mono (Kd.F_alloc (Kd.F_bound (Kd.F_below HX.out hb)) _) (fun k hk => ⟨hk.1, by have := hk.2; omega⟩)) (Kd.F_mono (Kd.F_alloc (Kd.F_bound HZ) _) (fun k hk => ⟨hk.1, by have := hk.2; omega⟩)) (Kd.F_alloc h0 _))
      clear hR hb hCz hi3 HZ h0 HX HI HB HCx E2 w2
      go_wp2_with fail
      generalize w3.alloc (.cells #[.slice Ax x.length cx, .slice Az z.length cz, .slice A0 l0.length c0] 51 (0, 0)) = w5 at *
      generalize w3.heap.size + 1 = N at *
      generalize w3.heap.size = b50 at *
      clear w3
      have HP := Aside0.mk (LB.pick w g l2 b50 N Ax cx x Az cz z A0 c0 l0 hlx hlz hc0)
      go_loopw [52] (fun v52 wr => ∃ (j : Nat) (q : Int), j ≤ 3 ∧ v52 = .int .i64 j ∧ Aside0 (LB w wr g l2 q b50 N Ax cx x Az cz z A0 c0 l0) ∧ Aside0 (Asks36 k l2 l1 a3 ([x, z, l0].drop j) q)) (fun v52 _ => 3 - (intOf v52).toNat)
      case atStart => exact ⟨0, q, by omega, rfl, H5, HQ⟩
      case round =>
        clear H5 HQ
        obtain ⟨j, q, hj, rfl, HS, HQ⟩ := hrel
        by_cases hlt : j < 3
        · obtain ⟨Ay, cy, y, hdrop, hly, hpick⟩ := HP.out j hlt
          have HY := Aside0.mk hpick
          have hq := HQ.out
          rw [hdrop] at hq
          obtain ⟨v, q1, m, t, q2, ev, em, et, ⟨b, eb1, eb2⟩, s1, s2, s3, s4, s5, s6, s7, hq⟩ := hq
          have EV := Aside0.mk ev
          have EM := Aside0.mk em
          have ET := Aside0.mk et
          have EB1 := Aside0.mk eb1
          have EB2 := Aside0.mk eb2
          have S1 := Aside0.mk s1
          have S2 := Aside0.mk s2
          have S3 := Aside0.mk s3
          have S4 := Aside0.mk s4
          have S5 := Aside0.mk s5
          have S6 := Aside0.mk s6
          have S7 := Aside0.mk s7
          have HQ2 := Aside0.mk hq
          have hcell := (hpick _ _ HS.out).1
          clear ev em et eb1 eb2 s1 s2 s3 s4 s5 s6 s7 hq hdrop hpick HQ
          go_wp2_with fail
          refine (scratch_Valid.calls Ay cy y b wr (HY.out _ _ HS.out).2 hly EB1.out).mono ?_
          rintro e wa ⟨rfl, hb⟩
          have HSa := Aside0.mk (HS.out.below hb)
          clear hb HS hcell EB1
          go_wp2_with fail
          refine (timeboundref36_Valid.calls k Ay cy y b wa (HY.out _ _ HSa.out).2 hly EB2.out).mono ?_
          rintro e wb ⟨rfl, hb⟩
          have HSb := Aside0.mk (HSa.out.below hb)
          clear hb HSa EB2
          have hbb : (b != b) = false := by simp
          go_wp2_with fail
          refine (timeboundmake_Deck_Next.calls g l2 q 40 v q1 w wb HSb.out.I HSb.out.B EV.out).mono ?_
          rintro e wc ⟨rfl, hi, hb, hk⟩
          have HSc := Aside0.mk (HSb.out.call hi hb hk)
          clear hi hb hk HSb EV hbb
          go_wp2_with fail
          refine (timeboundmake_Mod.calls a3 260 m wc EM.out).mono ?_
          rintro e wd ⟨rfl, hd⟩
          have HSd := Aside0.mk (HSc.out.below hd.below)
          have HL := Aside0.mk (heap_alloc_last wd (.cells #[.int .i64 a3, .int .i64 v, .int .i64 (wrap64 (m - 1))] 3 (0, 0)))
          have HS2 := Aside0.mk (HSd.out.alloc (.cells #[.int .i64 a3, .int .i64 v, .int .i64 (wrap64 (m - 1))] 3 (0, 0)))
          clear hd HSc HSd EM
          go_wp2_with fail
          generalize wd.alloc (.cells #[.int .i64 a3, .int .i64 v, .int .i64 (wrap64 (m - 1))] 3 (0, 0)) = w6 at *
          generalize wd.heap.size = b67 at *
          clear wd
          go_loopw [69] (fun v69 wr => ∃ i : Nat, i ≤ 3 ∧ v69 = .int .i64 i ∧ Aside0 (LB w wr g l2 q1 b50 N Ax cx x Az cz z A0 c0 l0) ∧ Aside0 (Below w6.heap.size w6 wr)) (fun v69 _ => 3 - (intOf v69).toNat)
          case atStart => exact ⟨0, by omega, rfl, HS2, ⟨Below.refl _ _⟩⟩
          case round =>
            clear HS2
            obtain ⟨i, hi3, rfl, HS, HW⟩ := hrel
            by_cases hlt2 : i < 3
            · obtain ⟨n, hcell, hs⟩ : ∃ n : Int, wr.cell? ⟨b67, i, none⟩ = some (.int .i64 n) ∧ Best36 k y n := by
                rcases i with _ | _ | _ | i
                · exact ⟨a3, blk_cell (blk_below HL.out HW.out) 0, S1.out⟩
                · exact ⟨v, blk_cell (blk_below HL.out HW.out) 1, S2.out⟩
                · exact ⟨wrap64 (m - 1), blk_cell (blk_below HL.out HW.out) 2, S3.out⟩
                · omega
              obtain ⟨c, er, f1, f2, f3⟩ := hs
              have F1 := Aside0.mk f1
              have F2 := Aside0.mk f2
              have F3 := Aside0.mk f3
              clear f1 f2 f3
              go_wp2_with fail
              refine (scratch_Best.calls k Ay cy y n c er wr (HY.out _ _ HS.out).2 hly F1.out).mono ?_
              rintro e wa ⟨u5, rfl, hR5, hb⟩
              obtain ⟨P1, p1, rfl, hlp1, hCp1⟩ := Kd.R_reads hR5
              have HP1 := Aside0.mk hCp1
              have HSa := Aside0.mk (HS.out.below hb)
              have HWa := Aside0.mk (below_step HW.out hb)
              clear hR5 hb hCp1 F1 HS HW hcell
              go_wp2_with fail
              refine (timeboundref36_Best.calls k Ay cy y n c er wa (HY.out _ _ HSa.out).2 hly F2.out).mono ?_
              rintro e wb ⟨u6, rfl, hR6, hb⟩
              obtain ⟨P2, p2, rfl, hlp2, hCp2⟩ := Kd.R_reads hR6
              have HP2 := Aside0.mk hCp2
              have HP1b := Aside0.mk (Kd.C_below HP1.out hb)
              have HSb := Aside0.mk (HSa.out.below hb)
              have HWb := Aside0.mk (below_step HWa.out hb)
              clear hR6 hb hCp2 F2 HSa HWa HP1
              go_wp2_with fail
              refine (timeboundref01_SameInts.calls k P1 p1 c P2 p2 c true wb HP1b.out hlp1 HP2.out hlp2 F3.out).mono ?_
              rintro e wc ⟨rfl, hd⟩
              have HSc := Aside0.mk (HSb.out.below hd.below)
              have HWc := Aside0.mk (below_step HWb.out hd.below)
              clear hd HSb HWb HP1b HP2 F3
              go_wp2_with fail
              go_roundw
              case rel => exact ⟨i + 1, by omega, by go_num, HSc, HWc⟩
              case measure => simp [intOf]; omega
            · have d6 : decide ((i : Int) < 3) = false := decide_eq_false (by omega)
              have d7 : decide (i < 3) = false := decide_eq_false (by omega)
              clear HL HW S1 S2 S3
              go_wp2_with fail
              refine (timeboundmake_Deck_Next.calls g l2 q1 3 t q2 w _ (HS.out.alloc _).I (HS.out.alloc _).B ET.out).mono ?_
              rintro e we ⟨rfl, hi, hb, hk⟩
              have HSe := Aside0.mk ((HS.out.alloc (.cells #[.int .i64 0, .int .i64 2] 3 (0, 0))).call hi hb hk)
              have HL1 := Aside0.mk (KeepBut.blk hk (heap_alloc_last wr (.cells #[.int .i64 0, .int .i64 2] 3 (0, 0))) (Nat.ne_of_gt HS.out.I.lt) (by simp))
              have hs1 := hk.1
              clear hi hb hk HS ET d6 d7
              generalize wr.heap.size = b96 at *
              have HLa := Aside0.mk (blk_alloc (blk_alloc (blk_alloc HL1.out (.cells #[.int .i64 t] 3 (0, 0))) (.cells #[.int .i64 1, .int .i64 0] 3 (0, 0))) (.cells #[.slice A1 l1.length c1, .slice (some ⟨b96, 0, none⟩) 2 2, .slice (some ⟨we.heap.size, 0, none⟩) 1 1, .slice (some ⟨we.heap.size + 1, 0, none⟩) 2 2] 22 (0, 0)))
              have HLb := Aside0.mk (blk_alloc (blk_alloc (heap_alloc_last we (.cells #[.int .i64 t] 3 (0, 0))) (.cells #[.int .i64 1, .int .i64 0] 3 (0, 0))) (.cells #[.slice A1 l1.length c1, .slice (some ⟨b96, 0, none⟩) 2 2, .slice (some ⟨we.heap.size, 0, none⟩) 1 1, .slice (some ⟨we.heap.size + 1, 0, none⟩) 2 2] 22 (0, 0)))
              have hlc := blk_alloc (heap_alloc_last (we.alloc (.cells #[.int .i64 t] 3 (0, 0))) (.cells #[.int .i64 1, .int .i64 0] 3 (0, 0))) (.cells #[.slice A1 l1.length c1, .slice (some ⟨b96, 0, none⟩) 2 2, .slice (some ⟨we.heap.size, 0, none⟩) 1 1, .slice (some ⟨we.heap.size + 1, 0, none⟩) 2 2] 22 (0, 0))
              have hld := heap_alloc_last ((we.alloc (.cells #[.int .i64 t] 3 (0, 0))).alloc (.cells #[.int .i64 1, .int .i64 0] 3 (0, 0))) (.cells #[.slice A1 l1.length c1, .slice (some ⟨b96, 0, none⟩) 2 2, .slice (some ⟨we.heap.size, 0, none⟩) 1 1, .slice (some ⟨we.heap.size + 1, 0, none⟩) 2 2] 22 (0, 0))
              rw [show (we.alloc (.cells #[.int .i64 t] 3 (0, 0))).heap.size = we.heap.size + 1 from by simp] at hlc
              rw [show ((we.alloc (.cells #[.int .i64 t] 3 (0, 0))).alloc (.cells #[.int .i64 1, .int .i64 0] 3 (0, 0))).heap.size = we.heap.size + 1 + 1 from by simp] at hld
              have HLc := Aside0.mk hlc
              have HLd := Aside0.mk hld
              have HS7 := Aside0.mk (((HSe.out.alloc (.cells #[.int .i64 t] 3 (0, 0))).alloc (.cells #[.int .i64 1, .int .i64 0] 3 (0, 0))).alloc (.cells #[.slice A1 l1.length c1, .slice (some ⟨b96, 0, none⟩) 2 2, .slice (some ⟨we.heap.size, 0, none⟩) 1 1, .slice (some ⟨we.heap.size + 1, 0, none⟩) 2 2] 22 (0, 0)))
              clear hlc hld hs1 HL1 HSe
              go_wp2_with fail
              generalize ((we.alloc (.cells #[.int .i64 t] 3 (0, 0))).alloc (.cells #[.int .i64 1, .int .i64 0] 3 (0, 0))).alloc (.cells #[.slice A1 l1.length c1, .slice (some ⟨b96, 0, none⟩) 2 2, .slice (some ⟨we.heap.size, 0, none⟩) 1 1, .slice (some ⟨we.heap.size + 1, 0, none⟩) 2 2] 22 (0, 0)) = w7 at *
              generalize we.heap.size + 1 + 1 = b101 at *
              generalize we.heap.size + 1 = b100 at *
              generalize we.heap.size = b99 at *
              clear we
              go_loopw [103] (fun v103 wr => ∃ i : Nat, i ≤ 4 ∧ v103 = .int .i64 i ∧ Aside0 (LB w wr g l2 q2 b50 N Ax cx x Az cz z A0 c0 l0) ∧ Aside0 (Below w7.heap.size w7 wr)) (fun v103 _ => 4 - (intOf v103).toNat)
              case atStart => exact ⟨0, by omega, rfl, HS7, ⟨Below.refl _ _⟩⟩
              case round =>
                clear HS7
                obtain ⟨i, hi4, rfl, HS, HW⟩ := hrel
                by_cases hlt3 : i < 4
                · obtain ⟨Am, cm, c, hcell, hC, hle, hs⟩ : ∃ Am cm c, wr.cell? ⟨b101, i, none⟩ = some (.slice Am c.length cm) ∧ Kd.C (Kd.int .i64) wr Am c.length c ∧ c.length ≤ cm ∧ Value36 k y c := by
                    rcases i with _ | _ | _ | _ | i
                    · exact ⟨A1, c1, l1, blk_cell (blk_below HLd.out HW.out) 0, Kd.C_below HR1.out HS.out.B, hc1, S4.out⟩
                    · exact ⟨_, 2, [0, 2], blk_cell (blk_below HLd.out HW.out) 1, C_blk [0, 2] (blk_below HLa.out HW.out) (by simp), by simp, S5.out⟩
                    · exact ⟨_, 1, [t], blk_cell (blk_below HLd.out HW.out) 2, C_blk [t] (blk_below HLb.out HW.out) (by simp), by simp, S6.out⟩
                    · exact ⟨_, 2, [1, 0], blk_cell (blk_below HLd.out HW.out) 3, C_blk [1, 0] (blk_below HLc.out HW.out) (by simp), by simp, S7.out⟩
                    · omega
                  obtain ⟨gn, sz, ok, f1, f2⟩ := hs
                  have F1 := Aside0.mk f1
                  have F2 := Aside0.mk f2
                  have HC := Aside0.mk hC
                  have hokb : (ok != ok) = false := by simp
                  clear f1 f2 hC
                  go_wp2_with fail
                  refine (scratch_Value.calls k Ay cy y Am cm c gn sz ok wr (HY.out _ _ HS.out).2 hly HC.out hle F1.out).mono ?_
                  rintro e wa ⟨rfl, hb⟩
                  have HSa := Aside0.mk (HS.out.below hb)
                  have HWa := Aside0.mk (below_step HW.out hb)
                  have HCa := Aside0.mk (Kd.C_below HC.out hb)
                  clear hb F1 HC HS HW hcell
                  go_wp2_with fail
                  refine (timeboundref36_Value.calls k Ay cy y Am cm c gn sz ok wa (HY.out _ _ HSa.out).2 hly HCa.out hle F2.out).mono ?_
                  rintro e wb ⟨rfl, hb⟩
                  have HSb := Aside0.mk (HSa.out.below hb)
                  have HWb := Aside0.mk (below_step HWa.out hb)
                  clear hb F2 HCa HSa HWa
                  go_wp2_with fail
                  go_roundw
                  case rel => exact ⟨i + 1, by omega, by go_num, HSb, HWb⟩
                  case measure => simp [intOf]; omega
                · have d8 : decide ((i : Int) < 4) = false := decide_eq_false (by omega)
                  have d9 : decide (i < 4) = false := decide_eq_false (by omega)
                  clear HLa HLb HLc HLd HW S4 S5 S6 S7
                  go_wp2_with fail
                  go_roundw
                  case rel => exact ⟨j + 1, q2, by omega, by go_num, HS, HQ2⟩
                  case measure => simp [intOf]; omega
        · have d8 : decide ((j : Int) < 3) = false := decide_eq_false (by omega)
          have d9 : decide (j < 3) = false := decide_eq_false (by omega)
          go_wp2_with fail
          refine (HAW.out _).mono ?_
          rintro e wz ⟨rfl, hb⟩
          have HZ := Aside0.mk (below_step HS.out.B hb)
          clear hb
          go_wp2_with fail
          go_ret
          exact ⟨rfl, HZ.out⟩
    · clear P
      have d1 : decide (12 < (l0.length : Int)) = false := decide_eq_false (by omega)
      have d2 : decide (30 < (l1.length : Int)) = true := decide_eq_true (by omega)
      have d3 : decide (12 < l0.length) = false := decide_eq_false (by omega)
      have d4 : decide (30 < l1.length) = true := decide_eq_true (by omega)
      go_enter Try.func6, Try.ntmps6
      go_wp2_with fail
      refine (HAW.out _).mono ?_
      rintro e wz ⟨rfl, hb⟩
      have HZ := Aside0.mk hb
      clear hb
      go_wp2_with fail
      go_ret
      exact ⟨rfl, HZ.out⟩
  · clear P
    have d1 : decide (12 < (l0.length : Int)) = true := decide_eq_true (by omega)
    have d3 : decide (12 < l0.length) = true := decide_eq_true (by omega)
    go_enter Try.func6, Try.ntmps6
    go_wp2_with fail
    refine (HAW.out _).mono ?_
    rintro e wz ⟨rfl, hb⟩
    have HZ := Aside0.mk hb
    clear hb
    go_wp2_with fail
    go_ret
    exact ⟨rfl, HZ.out⟩
theorem timeboundlaw36_ScratchBest.walk (P : timeboundlaw36_ScratchBest.Pure) (a0 : Option Addr) (cap0 : Nat) (z0 : List (S76)) (a1 : Option Addr) (len1 cap1 : Nat) (z1 : List Int) (a2 : Option Addr) (len2 cap2 : Nat) (z2 : List Int) (a3 : Int) (a4 : Int) (a5 : Int) (w : World) (w0 : Kd.C k76 w a0 z0.length z0) (y0 : z0.length ≤ cap0) (w1 : (a1 = none ∧ len1 = 0 ∧ cap1 = 0 ∧ z1 = []) ∨ ∃ x, a1 = some x ∧ len1 ≤ cap1 ∧ cap1 ≤ maxLen ∧ z1.length = cap1 ∧ (∀ i, i < z1.length → w.cell? (x.add i) = some (.int .i64 (z1.getD i 0))) ∧ ∀ n ∈ z1, (Lit.int .i64 n).wf = true) (y1 : len1 * 8 ≤ 140737488351232) (w2 : (a2 = none ∧ len2 = 0 ∧ cap2 = 0 ∧ z2 = []) ∨ ∃ x, a2 = some x ∧ len2 ≤ cap2 ∧ cap2 ≤ maxLen ∧ z2.length = cap2 ∧ (∀ i, i < z2.length → w.cell? (x.add i) = some (.int .i64 (z2.getD i 0))) ∧ ∀ n ∈ z2, (Lit.int .i64 n).wf = true) (y2 : len2 * 8 ≤ 140737488351232) (w3 : (Lit.int .i64 a3).wf = true) (w4 : (Lit.int .i64 a4).wf = true) (w5 : (Lit.int .i64 a5).wf = true) :
    Calls Try.prog 6 #[.slice a0 z0.length cap0, .slice a1 len1 cap1, .slice a2 len2 cap2, .int .i64 a3, .int .i64 a4, .int .i64 a5] w fun e w' => e = .returned (.bool true) ∧ Below w.heap.size w w' := by
  obtain ⟨l1, rfl, hr1, hm1, hw1, hc1⟩ := ReadsInt.ofRowC w1
  obtain ⟨l2, rfl, hr2, hm2, hw2, hc2⟩ := ReadsInt.ofRowC w2
  exact timeboundlaw36_ScratchBest.any P a0 cap0 z0 _ _ l1 _ _ l2 a3 a4 a5 w w0 y0 (Kd.C_of_reads (d := (0 : Int)) (h1 := fun _ => rfl) hr1) hc1 (Kd.C_of_reads (d := (0 : Int)) (h1 := fun _ => rfl) hr2) hc2 y1 y2 w3 w4 w5

end Go.Proofs.Ytdgegoefehmfmaa.QScratchBest
