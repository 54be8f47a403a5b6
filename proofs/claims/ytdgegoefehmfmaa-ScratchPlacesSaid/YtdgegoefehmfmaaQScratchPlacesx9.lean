-- Written for this claim by this session's own program (wip/pp).
import Derived.Test.YtdgegoefehmfmaaQScratchPlacesx0
import Derived.Test.YtdgegoefehmfmaaQScratchPlacesx5
import Derived.Test.YtdgegoefehmfmaaQScratchPlacesx8
namespace Go.Proofs.Ytdgegoefehmfmaa.QScratchPlaces
open Go.RowKit Go.Proofs.YtdgegoefehmfmaaW.PrintWords Go.Proofs.YtdgegoefehmfmaaW.PrintLast Go.Proofs.YtdgegoefehmfmaaW.PrintMore
attribute [local go_sem] max2_int min2_int max_two min_two max_three min_three max_four min_four   -- for this text's walks alone
set_option linter.unusedVariables false
set_option linter.unusedSimpArgs false

/-! ### timeboundref23_spans: function 144 -/
def timeboundref23_spans.l0 : Nat → List (S74) → Int → Int → Option (Bool)
  | 0, _, _, _ => none
  | k + 1, x0, x1, x5 => if x5 < (x0.length : Int) then (if 0 ≤ x5 then (if ((rd_T74 x0 x5).f0) < 0 then (some false) else (if ((rd_T74 x0 x5).f0) > ((rd_T74 x0 x5).f1) then (some false) else (if ((rd_T74 x0 x5).f1) > x1 then (some false) else (timeboundref23_spans.l0 k x0 x1 (wrap64 (x5 + 1)))))) else (none)) else (some true)
def timeboundref23_spans.f (k : Nat) (l0 : List (S74)) (a1 : Int) : Option (Bool) := if (l0.length : Int) > 16 then (some false) else (timeboundref23_spans.l0 k l0 a1 0)
theorem timeboundref23_spans.mono_l : ∀ k, (∀ y0 y1 y2, LeO (timeboundref23_spans.l0 k y0 y1 y2) (timeboundref23_spans.l0 (k + 1) y0 y1 y2))
  | 0 => fun _ _ _ r h => by simp [timeboundref23_spans.l0] at h
  | k + 1 => by
    have ih0 := timeboundref23_spans.mono_l k
    · intro y0 y1 y2
      unfold timeboundref23_spans.l0
      repeat' first
      | (with_reducible exact ih0 _ _ _)
      | (with_reducible exact LeO.refl _)
      | (with_reducible exact LeO.none _)
      | (with_reducible refine LeO.ite ?_ ?_)
      | (with_reducible refine LeO.bind ?_ (fun _ => ?_))
      | exact ih0 _ _ _
      | exact LeO.none _
      | refine LeO.ite ?_ ?_
      | refine LeO.bind ?_ (fun _ => ?_)
theorem timeboundref23_spans.mono : ∀ a0 a1 k, LeO (timeboundref23_spans.f k a0 a1) (timeboundref23_spans.f (k + 1) a0 a1) := by
  intro a0 a1 k
  have ih0 := timeboundref23_spans.mono_l k
  unfold timeboundref23_spans.f
  repeat' first
      | (with_reducible exact ih0 _ _ _)
      | (with_reducible exact LeO.refl _)
      | (with_reducible exact LeO.none _)
      | (with_reducible refine LeO.ite ?_ ?_)
      | (with_reducible refine LeO.bind ?_ (fun _ => ?_))
      | exact ih0 _ _ _
      | exact LeO.none _
      | refine LeO.ite ?_ ?_
      | refine LeO.bind ?_ (fun _ => ?_)
set_option maxHeartbeats 8000000 in
set_option maxRecDepth 100000 in
theorem timeboundref23_spans.calls (k : Nat) (A0 : Option Addr) (c0 : Nat) (l0 : List (S74)) (a1 : Int) (r : Bool) (w : World) (hr0 : Kd.C k74 w A0 l0.length l0) (hc0 : l0.length ≤ c0) (h : timeboundref23_spans.f k l0 a1 = some r) :
    Calls Try.prog 144 #[.slice A0 l0.length c0, .int .i64 a1] w fun e w' => e = .returned (.bool r) ∧ Drawn0 w w' := by
  have HR0 := Aside0.mk hr0
  have HC0 := Aside0.mk hc0
  clear hr0 hc0
  have H : (if (l0.length : Int) > 16 then (some false) else (timeboundref23_spans.l0 k l0 a1 0)) = some r := h
  clear h
  by_cases c3 : (l0.length : Int) > 16
  · rw [if_pos c3] at H
    have c3b0 : decide (16 < (l0.length : Int)) = true := decide_eq_true c3
    have c3b1 : decide (16 < l0.length) = true := decide_eq_true (by omega)
    clear c3
    obtain rfl := Option.some.inj H
    go_enter Try.func144, Try.ntmps144
    go_wp2
    go_ret
    exact ⟨by first | rfl | (simp; done) | (simp [*]; done), by repeat (first | exact Drawn0.refl _ | apply Drawn0.step)⟩
  · rw [if_neg c3] at H
    have c3b0 : decide (16 < (l0.length : Int)) = false := decide_eq_false c3
    have c3b1 : decide (16 < l0.length) = false := decide_eq_false (by omega)
    clear c3
    have H' := Aside0.mk H
    clear H
    go_enter Try.func144, Try.ntmps144
    go_wp2
    go_loopg [5] k (fun kq v5 w' => ∃ (x5_1 : Int), v5 = .int .i64 x5_1 ∧ Aside0 (timeboundref23_spans.l0 kq l0 a1 x5_1 = some r) ∧ Aside0 (kq ≤ k) ∧ Drawn0 w w')
    case atStart => exact ⟨(0), (by first | rfl | (simp; done) | (simp [*]; done)), H', ⟨Nat.le_refl _⟩, by repeat (first | exact Drawn0.refl _ | apply Drawn0.step)⟩
    case round =>
      clear H'
      try clear c1
      try clear p2
      try clear c3
      try clear c3b0
      try clear c3b1
      obtain ⟨x5_1, rfl, HA, HK1, ⟨m1, rfl⟩⟩ := hrel
      cases gk with
      | zero => exact absurd HA.out (by simp [timeboundref23_spans.l0])
      | succ k1 =>
        have H := HA.out
        clear HA
        simp only [timeboundref23_spans.l0] at H
        by_cases c4 : x5_1 < (l0.length : Int)
        · rw [if_pos c4] at H
          have c4b0 : decide (x5_1 < (l0.length : Int)) = true := decide_eq_true c4
          clear c4
          by_cases c5 : 0 ≤ x5_1
          · rw [if_pos c5] at H
            have c5b0 : decide (0 ≤ x5_1) = true := decide_eq_true c5
            clear c5
            by_cases c6 : ((rd_T74 l0 x5_1).f0) < 0
            · rw [if_pos c6] at H
              have c6b0 : decide (((rd_T74 l0 x5_1).f0) < 0) = true := decide_eq_true c6
              clear c6
              obtain rfl := Option.some.inj H
              have p220 : 0 ≤ (x5_1 : Int) := of_decide_eq_true (by first | (with_reducible assumption) | assumption)
              have q220 : x5_1 < (l0.length : Int) := of_decide_eq_true (by first | (with_reducible assumption) | assumption)
              obtain ⟨ad220, e220, hx220_0, hx220_1⟩ := at_T74 HR0.out x5_1 p220 q220
              cases e220
              replace p220 := eq_true p220
              replace q220 := eq_true q220
              go_wp2
              try go_quiet (fail)
              try go_wp2
              go_ret
              exact ⟨by first | rfl | (simp; done) | (simp [*]; done), by repeat (first | exact Drawn0.refl _ | apply Drawn0.step)⟩
            · rw [if_neg c6] at H
              have c6b0 : decide (((rd_T74 l0 x5_1).f0) < 0) = false := decide_eq_false c6
              clear c6
              by_cases c7 : ((rd_T74 l0 x5_1).f0) > ((rd_T74 l0 x5_1).f1)
              · rw [if_pos c7] at H
                have c7b0 : decide (((rd_T74 l0 x5_1).f1) < ((rd_T74 l0 x5_1).f0)) = true := decide_eq_true c7
                clear c7
                obtain rfl := Option.some.inj H
                have p220 : 0 ≤ (x5_1 : Int) := of_decide_eq_true (by first | (with_reducible assumption) | assumption)
                have q220 : x5_1 < (l0.length : Int) := of_decide_eq_true (by first | (with_reducible assumption) | assumption)
                obtain ⟨ad220, e220, hx220_0, hx220_1⟩ := at_T74 HR0.out x5_1 p220 q220
                cases e220
                replace p220 := eq_true p220
                replace q220 := eq_true q220
                have p221 : 0 ≤ (x5_1 : Int) := of_decide_eq_true (by first | (with_reducible assumption) | assumption)
                have q221 : x5_1 < (l0.length : Int) := of_decide_eq_true (by first | (with_reducible assumption) | assumption)
                obtain ⟨ad221, e221, hx221_0, hx221_1⟩ := at_T74 HR0.out x5_1 p221 q221
                obtain rfl : ad220 = ad221 := (by injection e221)
                replace p221 := eq_true p221
                replace q221 := eq_true q221
                have p222 : 0 ≤ (x5_1 : Int) := of_decide_eq_true (by first | (with_reducible assumption) | assumption)
                have q222 : x5_1 < (l0.length : Int) := of_decide_eq_true (by first | (with_reducible assumption) | assumption)
                obtain ⟨ad222, e222, hx222_0, hx222_1⟩ := at_T74 HR0.out x5_1 p222 q222
                obtain rfl : ad220 = ad222 := (by injection e222)
                replace p222 := eq_true p222
                replace q222 := eq_true q222
                go_wp2
                try go_quiet (fail)
                try go_wp2
                go_ret
                exact ⟨by first | rfl | (simp; done) | (simp [*]; done), by repeat (first | exact Drawn0.refl _ | apply Drawn0.step)⟩
              · rw [if_neg c7] at H
                have c7b0 : decide (((rd_T74 l0 x5_1).f1) < ((rd_T74 l0 x5_1).f0)) = false := decide_eq_false c7
                clear c7
                by_cases c8 : ((rd_T74 l0 x5_1).f1) > a1
                · rw [if_pos c8] at H
                  have c8b0 : decide (a1 < ((rd_T74 l0 x5_1).f1)) = true := decide_eq_true c8
                  clear c8
                  obtain rfl := Option.some.inj H
                  have p220 : 0 ≤ (x5_1 : Int) := of_decide_eq_true (by first | (with_reducible assumption) | assumption)
                  have q220 : x5_1 < (l0.length : Int) := of_decide_eq_true (by first | (with_reducible assumption) | assumption)
                  obtain ⟨ad220, e220, hx220_0, hx220_1⟩ := at_T74 HR0.out x5_1 p220 q220
                  cases e220
                  replace p220 := eq_true p220
                  replace q220 := eq_true q220
                  have p221 : 0 ≤ (x5_1 : Int) := of_decide_eq_true (by first | (with_reducible assumption) | assumption)
                  have q221 : x5_1 < (l0.length : Int) := of_decide_eq_true (by first | (with_reducible assumption) | assumption)
                  obtain ⟨ad221, e221, hx221_0, hx221_1⟩ := at_T74 HR0.out x5_1 p221 q221
                  obtain rfl : ad220 = ad221 := (by injection e221)
                  replace p221 := eq_true p221
                  replace q221 := eq_true q221
                  have p222 : 0 ≤ (x5_1 : Int) := of_decide_eq_true (by first | (with_reducible assumption) | assumption)
                  have q222 : x5_1 < (l0.length : Int) := of_decide_eq_true (by first | (with_reducible assumption) | assumption)
                  obtain ⟨ad222, e222, hx222_0, hx222_1⟩ := at_T74 HR0.out x5_1 p222 q222
                  obtain rfl : ad220 = ad222 := (by injection e222)
                  replace p222 := eq_true p222
                  replace q222 := eq_true q222
                  have p223 : 0 ≤ (x5_1 : Int) := of_decide_eq_true (by first | (with_reducible assumption) | assumption)
                  have q223 : x5_1 < (l0.length : Int) := of_decide_eq_true (by first | (with_reducible assumption) | assumption)
                  obtain ⟨ad223, e223, hx223_0, hx223_1⟩ := at_T74 HR0.out x5_1 p223 q223
                  obtain rfl : ad220 = ad223 := (by injection e223)
                  replace p223 := eq_true p223
                  replace q223 := eq_true q223
                  go_wp2
                  try go_quiet (fail)
                  try go_wp2
                  go_ret
                  exact ⟨by first | rfl | (simp; done) | (simp [*]; done), by repeat (first | exact Drawn0.refl _ | apply Drawn0.step)⟩
                · rw [if_neg c8] at H
                  have c8b0 : decide (a1 < ((rd_T74 l0 x5_1).f1)) = false := decide_eq_false c8
                  clear c8
                  have H' := Aside0.mk H
                  clear H
                  have p220 : 0 ≤ (x5_1 : Int) := of_decide_eq_true (by first | (with_reducible assumption) | assumption)
                  have q220 : x5_1 < (l0.length : Int) := of_decide_eq_true (by first | (with_reducible assumption) | assumption)
                  obtain ⟨ad220, e220, hx220_0, hx220_1⟩ := at_T74 HR0.out x5_1 p220 q220
                  cases e220
                  replace p220 := eq_true p220
                  replace q220 := eq_true q220
                  have p221 : 0 ≤ (x5_1 : Int) := of_decide_eq_true (by first | (with_reducible assumption) | assumption)
                  have q221 : x5_1 < (l0.length : Int) := of_decide_eq_true (by first | (with_reducible assumption) | assumption)
                  obtain ⟨ad221, e221, hx221_0, hx221_1⟩ := at_T74 HR0.out x5_1 p221 q221
                  obtain rfl : ad220 = ad221 := (by injection e221)
                  replace p221 := eq_true p221
                  replace q221 := eq_true q221
                  have p222 : 0 ≤ (x5_1 : Int) := of_decide_eq_true (by first | (with_reducible assumption) | assumption)
                  have q222 : x5_1 < (l0.length : Int) := of_decide_eq_true (by first | (with_reducible assumption) | assumption)
                  obtain ⟨ad222, e222, hx222_0, hx222_1⟩ := at_T74 HR0.out x5_1 p222 q222
                  obtain rfl : ad220 = ad222 := (by injection e222)
                  replace p222 := eq_true p222
                  replace q222 := eq_true q222
                  have p223 : 0 ≤ (x5_1 : Int) := of_decide_eq_true (by first | (with_reducible assumption) | assumption)
                  have q223 : x5_1 < (l0.length : Int) := of_decide_eq_true (by first | (with_reducible assumption) | assumption)
                  obtain ⟨ad223, e223, hx223_0, hx223_1⟩ := at_T74 HR0.out x5_1 p223 q223
                  obtain rfl : ad220 = ad223 := (by injection e223)
                  replace p223 := eq_true p223
                  replace q223 := eq_true q223
                  go_wp2
                  try go_quiet (fail)
                  try go_wp2
                  go_roundg k1
                  case measure => have := HK1.out; omega
                  case rel => exact ⟨(wrap64 (x5_1 + 1)), (by first | rfl | (simp; done) | (simp [*]; done)), H', ⟨by have := HK1.out; omega⟩, by repeat (first | exact Drawn0.refl _ | apply Drawn0.step)⟩
          · rw [if_neg c5] at H
            exact absurd H (by simp)
        · rw [if_neg c4] at H
          have c4b0 : decide (x5_1 < (l0.length : Int)) = false := decide_eq_false c4
          clear c4
          obtain rfl := Option.some.inj H
          go_wp2
          go_ret
          exact ⟨by first | rfl | (simp; done) | (simp [*]; done), by repeat (first | exact Drawn0.refl _ | apply Drawn0.step)⟩

/-! ### timeboundref23_Check: function 111 -/
/-- What is right of a processor but for its spans and what a miss costs. -/
def rest23 (p0 p1 p2 p3 p4 p5 p6 p7 p8 p9 p10 p11 p12 p13 p14 : Int) : Prop := timeboundref22_Check.f p0 p1 p2 = some 0 ∧ timeboundref22_Check.f p3 p4 p5 = some 0 ∧ p6 ≤ 100 ∧ (0 ≤ p9 ∧ p9 ≤ 100) ∧ (0 ≤ p11 ∧ p11 ≤ 100) ∧ (0 ≤ p12 ∧ p12 ≤ 100) ∧ (0 ≤ p13 ∧ p13 ≤ 100) ∧ (0 ≤ p14 ∧ p14 ≤ 100) ∧ (0 ≤ p7 ∧ p7 ≤ 8) ∧ (1 ≤ p8 ∧ p8 ≤ 16) ∧ (0 ≤ p10 ∧ p10 ≤ 16)
instance decRest23 (p0 p1 p2 p3 p4 p5 p6 p7 p8 p9 p10 p11 p12 p13 p14 : Int) : Decidable (rest23 p0 p1 p2 p3 p4 p5 p6 p7 p8 p9 p10 p11 p12 p13 p14) := by unfold rest23; infer_instance
theorem spans23_l0 (l : List S74) (hl : l.length ≤ 16) (n : Nat) : ∀ i : Int, 0 ≤ i → (l.length : Int) - i = n → (∀ s ∈ l.take i.toNat, spanBad 1024 s = false) → Ev (fun k => timeboundref23_spans.l0 k l 1024 i) (!(l.any (spanBad 1024))) := by
  induction n with
  | zero =>
    intro i h0 hi hq
    rw [List.take_of_length_le (by omega)] at hq
    have ha : l.any (spanBad 1024) = false := by rw [List.any_eq_false]; intro x hx; simp [hq x hx]
    rw [ha]
    refine Ev.step (f := fun _ => some true) (fun k => ?_) (Ev.now _)
    simp only [timeboundref23_spans.l0]
    rw [if_neg (by omega)]
  | succ n ih =>
    intro i h0 hi hq
    have hlt : i.toNat < l.length := by omega
    have hr : rd_T74 l i = l[i.toNat] := by simp [rd_T74, List.getD_eq_getElem?_getD, hlt]
    cases hb : spanBad 1024 l[i.toNat] with
    | true =>
      have ha : l.any (spanBad 1024) = true := List.any_eq_true.2 ⟨_, List.getElem_mem hlt, hb⟩
      rw [ha]
      refine Ev.step (f := fun _ => some false) (fun k => ?_) (Ev.now _)
      unfold spanBad at hb
      simp only [Bool.or_eq_true, decide_eq_true_eq] at hb
      simp only [timeboundref23_spans.l0, hr]
      rw [if_pos (by omega), if_pos h0]
      by_cases c1 : (l[i.toNat]).f0 < 0
      · rw [if_pos c1]
      · rw [if_neg c1]
        by_cases c2 : (l[i.toNat]).f0 > (l[i.toNat]).f1
        · rw [if_pos c2]
        · rw [if_neg c2, if_pos (by omega)]
    | false =>
      have w1 : wrap64 (i + 1) = i + 1 := by unfold wrap64; omega
      refine Ev.step (fun k => ?_) (ih (i + 1) (by omega) (by omega) ?_)
      · unfold spanBad at hb
        simp only [Bool.or_eq_false_iff, decide_eq_false_iff_not] at hb
        simp only [timeboundref23_spans.l0, hr, w1]
        rw [if_pos (by omega), if_pos h0, if_neg (by omega), if_neg (by omega), if_neg (by omega)]
      · rw [show (i + 1).toNat = i.toNat + 1 by omega, List.take_succ_eq_append_getElem hlt]
        intro s hs
        rcases List.mem_append.1 hs with h | h
        · exact hq s h
        · rw [List.mem_singleton.1 h]; exact hb
theorem spans23 (l : List S74) : ∃ k, timeboundref23_spans.f k l 1024 = some (placedB l 1024) := by
  by_cases h : l.length ≤ 16
  · obtain ⟨K, hK⟩ := spans23_l0 l h l.length 0 (by omega) (by omega) (by simp)
    refine ⟨K, ?_⟩
    unfold timeboundref23_spans.f placedB
    rw [if_neg (by omega), show timeboundref23_spans.l0 K l 1024 0 = _ from hK K (Nat.le_refl _), decide_eq_true (by omega), Bool.true_and]
  · refine ⟨0, ?_⟩
    unfold timeboundref23_spans.f placedB
    rw [if_pos (by omega), decide_eq_false (by omega), Bool.false_and]
theorem cost23 (x : Int) (h1 : x ≤ 100) : timeboundref23_cost.f x = some (decide (0 ≤ x)) := by
  unfold timeboundref23_cost.f
  by_cases h : x ≥ 0
  · rw [if_pos h]; simp [h, h1]
  · rw [if_neg h]; simp [h]
set_option maxHeartbeats 4000000 in
set_option maxRecDepth 100000 in
theorem ref23_Check_miss (p0 p1 p2 p3 p4 p5 p6 p7 p8 p9 p10 p11 p12 p13 p14 : Int) (A : Option Addr) (ca : Nat) (c : List S74) (A' : Option Addr) (cb : Nat) (d : List S74) (w : World) (hr : rest23 p0 p1 p2 p3 p4 p5 p6 p7 p8 p9 p10 p11 p12 p13 p14) (k15 : Kd.C k74 w A c.length c) (l15 : c.length ≤ ca) (k16 : Kd.C k74 w A' d.length d) (l16 : d.length ≤ cb) (hm : p6 < 0) :
    Calls Try.prog 111 #[.agg #[.int .i64 p0, .int .i64 p1, .int .i64 p2, .int .i64 p3, .int .i64 p4, .int .i64 p5, .int .i64 p6, .int .i64 p7, .int .i64 p8, .int .i64 p9, .int .i64 p10, .int .i64 p11, .int .i64 p12, .int .i64 p13, .int .i64 p14, .slice A c.length ca, .slice A' d.length cb]] w fun e w' => e = .returned (.int .i64 3) ∧ Below w.heap.size w w' := by
  obtain ⟨h1, h2, h6, h9, h11, h12, h13, h14, h7, h8, h10⟩ := hr
  have hu68 := Try.underlying68
  have HB0 := Aside0.mk (below_alloc (Below.refl w.heap.size w) (.cells #[.int .i64 p0, .int .i64 p1, .int .i64 p2, .int .i64 p3, .int .i64 p4, .int .i64 p5, .int .i64 p6, .int .i64 p7, .int .i64 p8, .int .i64 p9, .int .i64 p10, .int .i64 p11, .int .i64 p12, .int .i64 p13, .int .i64 p14, .slice A c.length ca, .slice A' d.length cb] 68 (0, 0)))
  have LB0 := Aside0.mk (heap_alloc_last w (.cells #[.int .i64 p0, .int .i64 p1, .int .i64 p2, .int .i64 p3, .int .i64 p4, .int .i64 p5, .int .i64 p6, .int .i64 p7, .int .i64 p8, .int .i64 p9, .int .i64 p10, .int .i64 p11, .int .i64 p12, .int .i64 p13, .int .i64 p14, .slice A c.length ca, .slice A' d.length cb] 68 (0, 0)))
  have H1 := Aside0.mk h1
  have H2 := Aside0.mk h2
  have K15 := Aside0.mk k15
  have K16 := Aside0.mk k16
  clear h1 h2 k15 k16
  have E6 := Aside0.mk (show timeboundref23_cost.f p6 = some false from by rw [cost23 p6 h6]; simp; omega)
  clear h6 h9 h11 h12 h13 h14 h7 h8 h10 hm
  have m0 := blk_cell LB0.out 0
  have m1 := blk_cell LB0.out 1
  have m2 := blk_cell LB0.out 2
  go_enter Try.func111, Try.ntmps111
  go_wp2_with fail
  refine (timeboundref22_Check.calls p0 p1 p2 0 _ H1.out).mono ?_
  rintro e w1 ⟨rfl, hb⟩
  have HB1 := Aside0.mk (below_step HB0.out hb)
  have LB1 := Aside0.mk (blk_below LB0.out hb)
  clear hb HB0 LB0 m0 m1 m2
  have m3 := blk_cell LB1.out 3
  have m4 := blk_cell LB1.out 4
  have m5 := blk_cell LB1.out 5
  go_wp2_with fail
  refine (timeboundref22_Check.calls p3 p4 p5 0 _ H2.out).mono ?_
  rintro e w2 ⟨rfl, hb⟩
  have HB2 := Aside0.mk (below_step HB1.out hb)
  have LB2 := Aside0.mk (blk_below LB1.out hb)
  clear hb HB1 LB1 m3 m4 m5
  have m6 := blk_cell LB2.out 6
  go_wp2_with fail
  refine (timeboundref23_cost.calls p6 false _ E6.out).mono ?_
  rintro e w3 ⟨rfl, hb⟩
  have HB3 := Aside0.mk (below_step HB2.out hb.below)
  have LB3 := Aside0.mk (blk_below LB2.out hb.below)
  clear hb HB2 LB2 m6
  go_wp2_with fail
  go_ret
  exact ⟨rfl, HB3.out⟩
set_option maxHeartbeats 4000000 in
set_option maxRecDepth 100000 in
theorem ref23_Check_all (p0 p1 p2 p3 p4 p5 p6 p7 p8 p9 p10 p11 p12 p13 p14 : Int) (A : Option Addr) (ca : Nat) (c : List S74) (A' : Option Addr) (cb : Nat) (d : List S74) (w : World) (hr : rest23 p0 p1 p2 p3 p4 p5 p6 p7 p8 p9 p10 p11 p12 p13 p14) (k15 : Kd.C k74 w A c.length c) (l15 : c.length ≤ ca) (k16 : Kd.C k74 w A' d.length d) (l16 : d.length ≤ cb) (hm : 0 ≤ p6) :
    Calls Try.prog 111 #[.agg #[.int .i64 p0, .int .i64 p1, .int .i64 p2, .int .i64 p3, .int .i64 p4, .int .i64 p5, .int .i64 p6, .int .i64 p7, .int .i64 p8, .int .i64 p9, .int .i64 p10, .int .i64 p11, .int .i64 p12, .int .i64 p13, .int .i64 p14, .slice A c.length ca, .slice A' d.length cb]] w fun e w' => e = .returned (.int .i64 (if placedB c 1024 && placedB d 1024 then 0 else 3)) ∧ Below w.heap.size w w' := by
  obtain ⟨res, hres⟩ : ∃ res : Int, res = (if placedB c 1024 && placedB d 1024 then 0 else 3) := ⟨_, rfl⟩
  rw [← hres]
  have HP := Aside0.mk hres
  clear hres
  obtain ⟨q1, s1⟩ := spans23 c
  obtain ⟨q2, s2⟩ := spans23 d
  have S1 := Aside0.mk s1
  have S2 := Aside0.mk s2
  clear s1 s2
  obtain ⟨h1, h2, h6, h9, h11, h12, h13, h14, h7, h8, h10⟩ := hr
  have hu68 := Try.underlying68
  have HB0 := Aside0.mk (below_alloc (Below.refl w.heap.size w) (.cells #[.int .i64 p0, .int .i64 p1, .int .i64 p2, .int .i64 p3, .int .i64 p4, .int .i64 p5, .int .i64 p6, .int .i64 p7, .int .i64 p8, .int .i64 p9, .int .i64 p10, .int .i64 p11, .int .i64 p12, .int .i64 p13, .int .i64 p14, .slice A c.length ca, .slice A' d.length cb] 68 (0, 0)))
  have LB0 := Aside0.mk (heap_alloc_last w (.cells #[.int .i64 p0, .int .i64 p1, .int .i64 p2, .int .i64 p3, .int .i64 p4, .int .i64 p5, .int .i64 p6, .int .i64 p7, .int .i64 p8, .int .i64 p9, .int .i64 p10, .int .i64 p11, .int .i64 p12, .int .i64 p13, .int .i64 p14, .slice A c.length ca, .slice A' d.length cb] 68 (0, 0)))
  have H1 := Aside0.mk h1
  have H2 := Aside0.mk h2
  have K15 := Aside0.mk k15
  have K16 := Aside0.mk k16
  clear h1 h2 k15 k16
  have E6 := Aside0.mk (show timeboundref23_cost.f p6 = some true from by rw [cost23 p6 h6]; simp; omega)
  have E9 := Aside0.mk (show timeboundref23_cost.f p9 = some true from by rw [cost23 p9 h9.2]; simp; omega)
  have E11 := Aside0.mk (show timeboundref23_cost.f p11 = some true from by rw [cost23 p11 h11.2]; simp; omega)
  have E12 := Aside0.mk (show timeboundref23_cost.f p12 = some true from by rw [cost23 p12 h12.2]; simp; omega)
  have E13 := Aside0.mk (show timeboundref23_cost.f p13 = some true from by rw [cost23 p13 h13.2]; simp; omega)
  have E14 := Aside0.mk (show timeboundref23_cost.f p14 = some true from by rw [cost23 p14 h14.2]; simp; omega)
  have dp7_0 : decide (p7 < 0) = false := decide_eq_false (by omega)
  have d8_p7 : decide (8 < p7) = false := decide_eq_false (by omega)
  have dp8_1 : decide (p8 < 1) = false := decide_eq_false (by omega)
  have d16_p8 : decide (16 < p8) = false := decide_eq_false (by omega)
  have dp10_0 : decide (p10 < 0) = false := decide_eq_false (by omega)
  have d16_p10 : decide (16 < p10) = false := decide_eq_false (by omega)
  clear h6 h9 h11 h12 h13 h14 h7 h8 h10 hm
  have m0 := blk_cell LB0.out 0
  have m1 := blk_cell LB0.out 1
  have m2 := blk_cell LB0.out 2
  go_enter Try.func111, Try.ntmps111
  go_wp2_with fail
  refine (timeboundref22_Check.calls p0 p1 p2 0 _ H1.out).mono ?_
  rintro e w1 ⟨rfl, hb⟩
  have HB1 := Aside0.mk (below_step HB0.out hb)
  have LB1 := Aside0.mk (blk_below LB0.out hb)
  clear hb HB0 LB0 m0 m1 m2
  have m3 := blk_cell LB1.out 3
  have m4 := blk_cell LB1.out 4
  have m5 := blk_cell LB1.out 5
  go_wp2_with fail
  refine (timeboundref22_Check.calls p3 p4 p5 0 _ H2.out).mono ?_
  rintro e w2 ⟨rfl, hb⟩
  have HB2 := Aside0.mk (below_step HB1.out hb)
  have LB2 := Aside0.mk (blk_below LB1.out hb)
  clear hb HB1 LB1 m3 m4 m5
  have m6 := blk_cell LB2.out 6
  go_wp2_with fail
  refine (timeboundref23_cost.calls p6 true _ E6.out).mono ?_
  rintro e w3 ⟨rfl, hb⟩
  have HB3 := Aside0.mk (below_step HB2.out hb.below)
  have LB3 := Aside0.mk (blk_below LB2.out hb.below)
  clear hb HB2 LB2 m6
  have m9 := blk_cell LB3.out 9
  go_wp2_with fail
  refine (timeboundref23_cost.calls p9 true _ E9.out).mono ?_
  rintro e w4 ⟨rfl, hb⟩
  have HB4 := Aside0.mk (below_step HB3.out hb.below)
  have LB4 := Aside0.mk (blk_below LB3.out hb.below)
  clear hb HB3 LB3 m9
  have m11 := blk_cell LB4.out 11
  go_wp2_with fail
  refine (timeboundref23_cost.calls p11 true _ E11.out).mono ?_
  rintro e w5 ⟨rfl, hb⟩
  have HB5 := Aside0.mk (below_step HB4.out hb.below)
  have LB5 := Aside0.mk (blk_below LB4.out hb.below)
  clear hb HB4 LB4 m11
  have m12 := blk_cell LB5.out 12
  go_wp2_with fail
  refine (timeboundref23_cost.calls p12 true _ E12.out).mono ?_
  rintro e w6 ⟨rfl, hb⟩
  have HB6 := Aside0.mk (below_step HB5.out hb.below)
  have LB6 := Aside0.mk (blk_below LB5.out hb.below)
  clear hb HB5 LB5 m12
  have m13 := blk_cell LB6.out 13
  go_wp2_with fail
  refine (timeboundref23_cost.calls p13 true _ E13.out).mono ?_
  rintro e w7 ⟨rfl, hb⟩
  have HB7 := Aside0.mk (below_step HB6.out hb.below)
  have LB7 := Aside0.mk (blk_below LB6.out hb.below)
  clear hb HB6 LB6 m13
  have m14 := blk_cell LB7.out 14
  go_wp2_with fail
  refine (timeboundref23_cost.calls p14 true _ E14.out).mono ?_
  rintro e w8 ⟨rfl, hb⟩
  have HB8 := Aside0.mk (below_step HB7.out hb.below)
  have LB8 := Aside0.mk (blk_below LB7.out hb.below)
  clear hb HB7 LB7 m14
  have m7 := blk_cell LB8.out 7
  have m8 := blk_cell LB8.out 8
  have m10 := blk_cell LB8.out 10
  have m15 := blk_cell LB8.out 15
  generalize placedB c 1024 = b1 at *
  generalize placedB d 1024 = b2 at *
  go_wp2_with fail
  refine (timeboundref23_spans.calls q1 A ca c 1024 b1 _ (Kd.C_below K15.out HB8.out) l15 S1.out).mono ?_
  rintro e w9 ⟨rfl, hb⟩
  have HB9 := Aside0.mk (below_step HB8.out hb.below)
  have LB9 := Aside0.mk (blk_below LB8.out hb.below)
  clear hb HB8 LB8 m7 m8 m10 m15
  cases b1 with
  | false =>
    go_wp2_with fail
    go_ret
    exact ⟨by rw [HP.out]; rfl, HB9.out⟩
  | true =>
    have m16 := blk_cell LB9.out 16
    go_wp2_with fail
    refine (timeboundref23_spans.calls q2 A' cb d 1024 b2 _ (Kd.C_below K16.out HB9.out) l16 S2.out).mono ?_
    rintro e w10 ⟨rfl, hb⟩
    have HB10 := Aside0.mk (below_step HB9.out hb.below)
    have LB10 := Aside0.mk (blk_below LB9.out hb.below)
    clear hb HB9 LB9 m16
    cases b2 with
    | false =>
      go_wp2_with fail
      go_ret
      exact ⟨by rw [HP.out]; rfl, HB10.out⟩
    | true =>
      go_wp2_with fail
      go_ret
      exact ⟨by rw [HP.out]; rfl, HB10.out⟩
def timeboundref23_Check.f (p0 p1 p2 p3 p4 p5 p6 p7 p8 p9 p10 p11 p12 p13 p14 : Int) (c d : List S74) : Option Int := if rest23 p0 p1 p2 p3 p4 p5 p6 p7 p8 p9 p10 p11 p12 p13 p14 then some (if p6 < 0 then 3 else if placedB c 1024 && placedB d 1024 then 0 else 3) else none
theorem timeboundref23_Check.calls (a0_0 : Int) (a0_1 : Int) (a0_2 : Int) (a0_3 : Int) (a0_4 : Int) (a0_5 : Int) (a0_6 : Int) (a0_7 : Int) (a0_8 : Int) (a0_9 : Int) (a0_10 : Int) (a0_11 : Int) (a0_12 : Int) (a0_13 : Int) (a0_14 : Int) (A0_15 : Option Addr) (c0_15 : Nat) (l0_15 : List S74) (A0_16 : Option Addr) (c0_16 : Nat) (l0_16 : List S74) (r : Int) (w : World) (hr0_15 : Kd.C k74 w A0_15 l0_15.length l0_15) (hc0_15 : l0_15.length ≤ c0_15) (hr0_16 : Kd.C k74 w A0_16 l0_16.length l0_16) (hc0_16 : l0_16.length ≤ c0_16) (h : timeboundref23_Check.f a0_0 a0_1 a0_2 a0_3 a0_4 a0_5 a0_6 a0_7 a0_8 a0_9 a0_10 a0_11 a0_12 a0_13 a0_14 l0_15 l0_16 = some r) :
    Calls Try.prog 111 #[.agg #[.int .i64 a0_0, .int .i64 a0_1, .int .i64 a0_2, .int .i64 a0_3, .int .i64 a0_4, .int .i64 a0_5, .int .i64 a0_6, .int .i64 a0_7, .int .i64 a0_8, .int .i64 a0_9, .int .i64 a0_10, .int .i64 a0_11, .int .i64 a0_12, .int .i64 a0_13, .int .i64 a0_14, .slice A0_15 l0_15.length c0_15, .slice A0_16 l0_16.length c0_16]] w fun e w' => e = .returned (.int .i64 r) ∧ Below w.heap.size w w' := by
  unfold timeboundref23_Check.f at h
  split at h
  · obtain rfl := Option.some.inj h
    by_cases hm : a0_6 < 0
    · rw [if_pos hm]
      exact ref23_Check_miss a0_0 a0_1 a0_2 a0_3 a0_4 a0_5 a0_6 a0_7 a0_8 a0_9 a0_10 a0_11 a0_12 a0_13 a0_14 A0_15 c0_15 l0_15 A0_16 c0_16 l0_16 w (by assumption) hr0_15 hc0_15 hr0_16 hc0_16 hm
    · rw [if_neg hm]
      exact ref23_Check_all a0_0 a0_1 a0_2 a0_3 a0_4 a0_5 a0_6 a0_7 a0_8 a0_9 a0_10 a0_11 a0_12 a0_13 a0_14 A0_15 c0_15 l0_15 A0_16 c0_16 l0_16 w (by assumption) hr0_15 hc0_15 hr0_16 hc0_16 (by omega)
  · cases h

end Go.Proofs.Ytdgegoefehmfmaa.QScratchPlaces
