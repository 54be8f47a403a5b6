-- Written for this claim by this session's own program (wip/pp).
import Derived.Test.YtdgegoefehmfmaaQScratchPlacesx0
namespace Go.Proofs.Ytdgegoefehmfmaa.QScratchPlaces
open Go.RowKit Go.Proofs.YtdgegoefehmfmaaW.PrintWords Go.Proofs.YtdgegoefehmfmaaW.PrintLast Go.Proofs.YtdgegoefehmfmaaW.PrintMore
attribute [local go_sem] max2_int min2_int max_two min_two max_three min_three max_four min_four   -- for this text's walks alone
set_option linter.unusedVariables false
set_option linter.unusedSimpArgs false

/-! ### timeboundref23_Scratch: function 43 -/
def timeboundref23_Scratch.l0 : Nat → List (S74) → Int → Int → Option (Bool)
  | 0, _, _, _ => none
  | k + 1, x0, x1, x5 => if x5 < (x0.length : Int) then (if 0 ≤ x5 then (if x1 ≥ ((rd_T74 x0 x5).f0) then (if x1 < ((rd_T74 x0 x5).f1) then (some true) else (timeboundref23_Scratch.l0 k x0 x1 (wrap64 (x5 + 1)))) else (timeboundref23_Scratch.l0 k x0 x1 (wrap64 (x5 + 1)))) else (none)) else (some false)
def timeboundref23_Scratch.f (k : Nat) (l0 : List (S74)) (a1 : Int) : Option (Bool) := timeboundref23_Scratch.l0 k l0 a1 0
theorem timeboundref23_Scratch.mono_l : ∀ k, (∀ y0 y1 y2, LeO (timeboundref23_Scratch.l0 k y0 y1 y2) (timeboundref23_Scratch.l0 (k + 1) y0 y1 y2))
  | 0 => fun _ _ _ r h => by simp [timeboundref23_Scratch.l0] at h
  | k + 1 => by
    have ih0 := timeboundref23_Scratch.mono_l k
    · intro y0 y1 y2
      unfold timeboundref23_Scratch.l0
      repeat' first
      | (with_reducible exact ih0 _ _ _)
      | (with_reducible exact LeO.refl _)
      | (with_reducible exact LeO.none _)
      | (with_reducible refine LeO.ite ?_ ?_)
      | (with_reducible refine LeO.bind ?_ (fun _ => ?_))
      | exact ih0 _ _ _
      | exact LeO.none _
      | refine LeO.ite ?_ ?_
      | refine LeO.bind ?_ (fun _ => ?_)
theorem timeboundref23_Scratch.mono : ∀ a0 a1 k, LeO (timeboundref23_Scratch.f k a0 a1) (timeboundref23_Scratch.f (k + 1) a0 a1) := by
  intro a0 a1 k
  have ih0 := timeboundref23_Scratch.mono_l k
  unfold timeboundref23_Scratch.f
  repeat' first
      | (with_reducible exact ih0 _ _ _)
      | (with_reducible exact LeO.refl _)
      | (with_reducible exact LeO.none _)
      | (with_reducible refine LeO.ite ?_ ?_)
      | (with_reducible refine LeO.bind ?_ (fun _ => ?_))
      | exact ih0 _ _ _
      | exact LeO.none _
      | refine LeO.ite ?_ ?_
      | refine LeO.bind ?_ (fun _ => ?_)
set_option maxHeartbeats 8000000 in
set_option maxRecDepth 100000 in
theorem timeboundref23_Scratch.calls (k : Nat) (A0 : Option Addr) (c0 : Nat) (l0 : List (S74)) (a1 : Int) (r : Bool) (w : World) (hr0 : Kd.C k74 w A0 l0.length l0) (hc0 : l0.length ≤ c0) (h : timeboundref23_Scratch.f k l0 a1 = some r) :
    Calls Try.prog 43 #[.slice A0 l0.length c0, .int .i64 a1] w fun e w' => e = .returned (.bool r) ∧ Drawn0 w w' := by
  have HR0 := Aside0.mk hr0
  have HC0 := Aside0.mk hc0
  clear hr0 hc0
  have H : (timeboundref23_Scratch.l0 k l0 a1 0) = some r := h
  clear h
  have H' := Aside0.mk H
  clear H
  go_enter Try.func43, Try.ntmps43
  go_wp2
  go_loopg [5] k (fun kq v5 w' => ∃ (x5_1 : Int), v5 = .int .i64 x5_1 ∧ Aside0 (timeboundref23_Scratch.l0 kq l0 a1 x5_1 = some r) ∧ Aside0 (kq ≤ k) ∧ Drawn0 w w')
  case atStart => exact ⟨(0), (by first | rfl | (simp; done) | (simp [*]; done)), H', ⟨Nat.le_refl _⟩, by repeat (first | exact Drawn0.refl _ | apply Drawn0.step)⟩
  case round =>
    clear H'
    try clear p2
    obtain ⟨x5_1, rfl, HA, HK1, ⟨m1, rfl⟩⟩ := hrel
    cases gk with
    | zero => exact absurd HA.out (by simp [timeboundref23_Scratch.l0])
    | succ k1 =>
      have H := HA.out
      clear HA
      simp only [timeboundref23_Scratch.l0] at H
      by_cases c3 : x5_1 < (l0.length : Int)
      · rw [if_pos c3] at H
        have c3b0 : decide (x5_1 < (l0.length : Int)) = true := decide_eq_true c3
        clear c3
        by_cases c4 : 0 ≤ x5_1
        · rw [if_pos c4] at H
          have c4b0 : decide (0 ≤ x5_1) = true := decide_eq_true c4
          clear c4
          by_cases c5 : a1 ≥ ((rd_T74 l0 x5_1).f0)
          · rw [if_pos c5] at H
            have c5b0 : decide (((rd_T74 l0 x5_1).f0) ≤ a1) = true := decide_eq_true c5
            clear c5
            by_cases c6 : a1 < ((rd_T74 l0 x5_1).f1)
            · rw [if_pos c6] at H
              have c6b0 : decide (a1 < ((rd_T74 l0 x5_1).f1)) = true := decide_eq_true c6
              clear c6
              obtain rfl := Option.some.inj H
              have p250 : 0 ≤ (x5_1 : Int) := of_decide_eq_true (by first | (with_reducible assumption) | assumption)
              have q250 : x5_1 < (l0.length : Int) := of_decide_eq_true (by first | (with_reducible assumption) | assumption)
              obtain ⟨ad250, e250, hx250_0, hx250_1⟩ := at_T74 HR0.out x5_1 p250 q250
              cases e250
              replace p250 := eq_true p250
              replace q250 := eq_true q250
              have p251 : 0 ≤ (x5_1 : Int) := of_decide_eq_true (by first | (with_reducible assumption) | assumption)
              have q251 : x5_1 < (l0.length : Int) := of_decide_eq_true (by first | (with_reducible assumption) | assumption)
              obtain ⟨ad251, e251, hx251_0, hx251_1⟩ := at_T74 HR0.out x5_1 p251 q251
              obtain rfl : ad250 = ad251 := (by injection e251)
              replace p251 := eq_true p251
              replace q251 := eq_true q251
              go_wp2
              go_ret
              exact ⟨by first | rfl | (simp; done) | (simp [*]; done), by repeat (first | exact Drawn0.refl _ | apply Drawn0.step)⟩
            · rw [if_neg c6] at H
              have c6b0 : decide (a1 < ((rd_T74 l0 x5_1).f1)) = false := decide_eq_false c6
              clear c6
              have H' := Aside0.mk H
              clear H
              have p250 : 0 ≤ (x5_1 : Int) := of_decide_eq_true (by first | (with_reducible assumption) | assumption)
              have q250 : x5_1 < (l0.length : Int) := of_decide_eq_true (by first | (with_reducible assumption) | assumption)
              obtain ⟨ad250, e250, hx250_0, hx250_1⟩ := at_T74 HR0.out x5_1 p250 q250
              cases e250
              replace p250 := eq_true p250
              replace q250 := eq_true q250
              have p251 : 0 ≤ (x5_1 : Int) := of_decide_eq_true (by first | (with_reducible assumption) | assumption)
              have q251 : x5_1 < (l0.length : Int) := of_decide_eq_true (by first | (with_reducible assumption) | assumption)
              obtain ⟨ad251, e251, hx251_0, hx251_1⟩ := at_T74 HR0.out x5_1 p251 q251
              obtain rfl : ad250 = ad251 := (by injection e251)
              replace p251 := eq_true p251
              replace q251 := eq_true q251
              go_wp2
              go_roundg k1
              case measure => have := HK1.out; omega
              case rel => exact ⟨(wrap64 (x5_1 + 1)), (by first | rfl | (simp; done) | (simp [*]; done)), H', ⟨by have := HK1.out; omega⟩, by repeat (first | exact Drawn0.refl _ | apply Drawn0.step)⟩
          · rw [if_neg c5] at H
            have c5b0 : decide (((rd_T74 l0 x5_1).f0) ≤ a1) = false := decide_eq_false c5
            clear c5
            have H' := Aside0.mk H
            clear H
            have p250 : 0 ≤ (x5_1 : Int) := of_decide_eq_true (by first | (with_reducible assumption) | assumption)
            have q250 : x5_1 < (l0.length : Int) := of_decide_eq_true (by first | (with_reducible assumption) | assumption)
            obtain ⟨ad250, e250, hx250_0, hx250_1⟩ := at_T74 HR0.out x5_1 p250 q250
            cases e250
            replace p250 := eq_true p250
            replace q250 := eq_true q250
            go_wp2
            go_roundg k1
            case measure => have := HK1.out; omega
            case rel => exact ⟨(wrap64 (x5_1 + 1)), (by first | rfl | (simp; done) | (simp [*]; done)), H', ⟨by have := HK1.out; omega⟩, by repeat (first | exact Drawn0.refl _ | apply Drawn0.step)⟩
        · rw [if_neg c4] at H
          exact absurd H (by simp)
      · rw [if_neg c3] at H
        have c3b0 : decide (x5_1 < (l0.length : Int)) = false := decide_eq_false c3
        clear c3
        obtain rfl := Option.some.inj H
        go_wp2
        go_ret
        exact ⟨by first | rfl | (simp; done) | (simp [*]; done), by repeat (first | exact Drawn0.refl _ | apply Drawn0.step)⟩

/-! ### timeboundref36_Words: function 64 -/
mutual
def timeboundref36_Words.l0 : Nat → Int → Int → Int → Int → Int → Int → Int → Int → Int → Int → Int → Int → Int → Int → Int → Int → Int → List (S74) → List (S74) → Option (Int)
  | 0, _, _, _, _, _, _, _, _, _, _, _, _, _, _, _, _, _, _, _ => none
  | k + 1, x3, x6, x253000, x253001, x253002, x253003, x253004, x253005, x253006, x253007, x253008, x253009, x253010, x253011, x253012, x253013, x253014, x253015, x253016 => if x6 < 1024 then ((timeboundref23_Scratch.f k x253015 x6).bind fun t253 => (if t253 = true then (timeboundref36_Words.l0 k (wrap64 (x3 + 1)) (wrap64 (x6 + 1)) x253000 x253001 x253002 x253003 x253004 x253005 x253006 x253007 x253008 x253009 x253010 x253011 x253012 x253013 x253014 x253015 x253016) else (timeboundref36_Words.l0 k x3 (wrap64 (x6 + 1)) x253000 x253001 x253002 x253003 x253004 x253005 x253006 x253007 x253008 x253009 x253010 x253011 x253012 x253013 x253014 x253015 x253016))) else (timeboundref36_Words.l1 k x3 0 x253000 x253001 x253002 x253003 x253004 x253005 x253006 x253007 x253008 x253009 x253010 x253011 x253012 x253013 x253014 x253015 x253016)
def timeboundref36_Words.l1 : Nat → Int → Int → Int → Int → Int → Int → Int → Int → Int → Int → Int → Int → Int → Int → Int → Int → Int → List (S74) → List (S74) → Option (Int)
  | 0, _, _, _, _, _, _, _, _, _, _, _, _, _, _, _, _, _, _, _ => none
  | k + 1, x3, x16, x253000, x253001, x253002, x253003, x253004, x253005, x253006, x253007, x253008, x253009, x253010, x253011, x253012, x253013, x253014, x253015, x253016 => if x16 < 1024 then ((timeboundref23_Scratch.f k x253016 x16).bind fun t254 => (if t254 = true then (timeboundref36_Words.l1 k (wrap64 (x3 + 1)) (wrap64 (x16 + 1)) x253000 x253001 x253002 x253003 x253004 x253005 x253006 x253007 x253008 x253009 x253010 x253011 x253012 x253013 x253014 x253015 x253016) else (timeboundref36_Words.l1 k x3 (wrap64 (x16 + 1)) x253000 x253001 x253002 x253003 x253004 x253005 x253006 x253007 x253008 x253009 x253010 x253011 x253012 x253013 x253014 x253015 x253016))) else (some x3)
end
def timeboundref36_Words.f (k : Nat) (a0_0 : Int) (a0_1 : Int) (a0_2 : Int) (a0_3 : Int) (a0_4 : Int) (a0_5 : Int) (a0_6 : Int) (a0_7 : Int) (a0_8 : Int) (a0_9 : Int) (a0_10 : Int) (a0_11 : Int) (a0_12 : Int) (a0_13 : Int) (a0_14 : Int) (l0_15 : List (S74)) (l0_16 : List (S74)) : Option (Int) := timeboundref36_Words.l0 k 0 0 a0_0 a0_1 a0_2 a0_3 a0_4 a0_5 a0_6 a0_7 a0_8 a0_9 a0_10 a0_11 a0_12 a0_13 a0_14 l0_15 l0_16
theorem timeboundref36_Words.mono_l : ∀ k, (∀ y0 y1 y2 y3 y4 y5 y6 y7 y8 y9 y10 y11 y12 y13 y14 y15 y16 y17 y18, LeO (timeboundref36_Words.l0 k y0 y1 y2 y3 y4 y5 y6 y7 y8 y9 y10 y11 y12 y13 y14 y15 y16 y17 y18) (timeboundref36_Words.l0 (k + 1) y0 y1 y2 y3 y4 y5 y6 y7 y8 y9 y10 y11 y12 y13 y14 y15 y16 y17 y18)) ∧ (∀ y0 y1 y2 y3 y4 y5 y6 y7 y8 y9 y10 y11 y12 y13 y14 y15 y16 y17 y18, LeO (timeboundref36_Words.l1 k y0 y1 y2 y3 y4 y5 y6 y7 y8 y9 y10 y11 y12 y13 y14 y15 y16 y17 y18) (timeboundref36_Words.l1 (k + 1) y0 y1 y2 y3 y4 y5 y6 y7 y8 y9 y10 y11 y12 y13 y14 y15 y16 y17 y18))
  | 0 => ⟨fun _ _ _ _ _ _ _ _ _ _ _ _ _ _ _ _ _ _ _ r h => by simp [timeboundref36_Words.l0] at h, fun _ _ _ _ _ _ _ _ _ _ _ _ _ _ _ _ _ _ _ r h => by simp [timeboundref36_Words.l1] at h⟩
  | k + 1 => by
    obtain ⟨ih0, ih1⟩ := timeboundref36_Words.mono_l k
    refine ⟨?_, ?_⟩
    · intro y0 y1 y2 y3 y4 y5 y6 y7 y8 y9 y10 y11 y12 y13 y14 y15 y16 y17 y18
      unfold timeboundref36_Words.l0
      repeat' first
      | (with_reducible exact ih0 _ _ _ _ _ _ _ _ _ _ _ _ _ _ _ _ _ _ _)
      | (with_reducible exact ih1 _ _ _ _ _ _ _ _ _ _ _ _ _ _ _ _ _ _ _)
      | (with_reducible exact timeboundref23_Scratch.mono _ _ _)
      | (with_reducible exact LeO.refl _)
      | (with_reducible exact LeO.none _)
      | (with_reducible refine LeO.ite ?_ ?_)
      | (with_reducible refine LeO.bind ?_ (fun _ => ?_))
      | exact ih0 _ _ _ _ _ _ _ _ _ _ _ _ _ _ _ _ _ _ _
      | exact ih1 _ _ _ _ _ _ _ _ _ _ _ _ _ _ _ _ _ _ _
      | exact timeboundref23_Scratch.mono _ _ _
      | exact LeO.none _
      | refine LeO.ite ?_ ?_
      | refine LeO.bind ?_ (fun _ => ?_)
    · intro y0 y1 y2 y3 y4 y5 y6 y7 y8 y9 y10 y11 y12 y13 y14 y15 y16 y17 y18
      unfold timeboundref36_Words.l1
      repeat' first
      | (with_reducible exact ih0 _ _ _ _ _ _ _ _ _ _ _ _ _ _ _ _ _ _ _)
      | (with_reducible exact ih1 _ _ _ _ _ _ _ _ _ _ _ _ _ _ _ _ _ _ _)
      | (with_reducible exact timeboundref23_Scratch.mono _ _ _)
      | (with_reducible exact LeO.refl _)
      | (with_reducible exact LeO.none _)
      | (with_reducible refine LeO.ite ?_ ?_)
      | (with_reducible refine LeO.bind ?_ (fun _ => ?_))
      | exact ih0 _ _ _ _ _ _ _ _ _ _ _ _ _ _ _ _ _ _ _
      | exact ih1 _ _ _ _ _ _ _ _ _ _ _ _ _ _ _ _ _ _ _
      | exact timeboundref23_Scratch.mono _ _ _
      | exact LeO.none _
      | refine LeO.ite ?_ ?_
      | refine LeO.bind ?_ (fun _ => ?_)
theorem timeboundref36_Words.mono : ∀ a0 a1 a2 a3 a4 a5 a6 a7 a8 a9 a10 a11 a12 a13 a14 a15 a16 k, LeO (timeboundref36_Words.f k a0 a1 a2 a3 a4 a5 a6 a7 a8 a9 a10 a11 a12 a13 a14 a15 a16) (timeboundref36_Words.f (k + 1) a0 a1 a2 a3 a4 a5 a6 a7 a8 a9 a10 a11 a12 a13 a14 a15 a16) := by
  intro a0 a1 a2 a3 a4 a5 a6 a7 a8 a9 a10 a11 a12 a13 a14 a15 a16 k
  obtain ⟨ih0, ih1⟩ := timeboundref36_Words.mono_l k
  unfold timeboundref36_Words.f
  repeat' first
      | (with_reducible exact ih0 _ _ _ _ _ _ _ _ _ _ _ _ _ _ _ _ _ _ _)
      | (with_reducible exact ih1 _ _ _ _ _ _ _ _ _ _ _ _ _ _ _ _ _ _ _)
      | (with_reducible exact timeboundref23_Scratch.mono _ _ _)
      | (with_reducible exact LeO.refl _)
      | (with_reducible exact LeO.none _)
      | (with_reducible refine LeO.ite ?_ ?_)
      | (with_reducible refine LeO.bind ?_ (fun _ => ?_))
      | exact ih0 _ _ _ _ _ _ _ _ _ _ _ _ _ _ _ _ _ _ _
      | exact ih1 _ _ _ _ _ _ _ _ _ _ _ _ _ _ _ _ _ _ _
      | exact timeboundref23_Scratch.mono _ _ _
      | exact LeO.none _
      | refine LeO.ite ?_ ?_
      | refine LeO.bind ?_ (fun _ => ?_)
set_option maxHeartbeats 8000000 in
set_option maxRecDepth 100000 in
theorem timeboundref36_Words.calls (k : Nat) (a0_0 : Int) (a0_1 : Int) (a0_2 : Int) (a0_3 : Int) (a0_4 : Int) (a0_5 : Int) (a0_6 : Int) (a0_7 : Int) (a0_8 : Int) (a0_9 : Int) (a0_10 : Int) (a0_11 : Int) (a0_12 : Int) (a0_13 : Int) (a0_14 : Int) (A0_15 : Option Addr) (c0_15 : Nat) (l0_15 : List (S74)) (A0_16 : Option Addr) (c0_16 : Nat) (l0_16 : List (S74)) (r : Int) (w : World) (hr0_15 : Kd.C k74 w A0_15 l0_15.length l0_15) (hc0_15 : l0_15.length ≤ c0_15) (hr0_16 : Kd.C k74 w A0_16 l0_16.length l0_16) (hc0_16 : l0_16.length ≤ c0_16) (h : timeboundref36_Words.f k a0_0 a0_1 a0_2 a0_3 a0_4 a0_5 a0_6 a0_7 a0_8 a0_9 a0_10 a0_11 a0_12 a0_13 a0_14 l0_15 l0_16 = some r) :
    Calls Try.prog 64 #[.agg #[.int .i64 a0_0, .int .i64 a0_1, .int .i64 a0_2, .int .i64 a0_3, .int .i64 a0_4, .int .i64 a0_5, .int .i64 a0_6, .int .i64 a0_7, .int .i64 a0_8, .int .i64 a0_9, .int .i64 a0_10, .int .i64 a0_11, .int .i64 a0_12, .int .i64 a0_13, .int .i64 a0_14, .slice A0_15 l0_15.length c0_15, .slice A0_16 l0_16.length c0_16]] w fun e w' => e = .returned (.int .i64 r) ∧ Below w.heap.size w w' := by
  have hu68 := Try.underlying68
  have HR0_15 := Aside0.mk hr0_15
  have HC0_15 := Aside0.mk hc0_15
  clear hr0_15 hc0_15
  have HR0_16 := Aside0.mk hr0_16
  have HC0_16 := Aside0.mk hc0_16
  clear hr0_16 hc0_16
  have HB := Aside0.mk (Below.refl w.heap.size w)
  have H : (timeboundref36_Words.l0 k 0 0 a0_0 a0_1 a0_2 a0_3 a0_4 a0_5 a0_6 a0_7 a0_8 a0_9 a0_10 a0_11 a0_12 a0_13 a0_14 l0_15 l0_16) = some r := h
  clear h
  have H' := Aside0.mk H
  clear H
  go_enter Try.func64, Try.ntmps64
  go_wp2_with (first | ((with_reducible refine gate_dst (N := 1) rfl ?_); refine box_event ?hg (N := 1) ?hd (cs := #[.int .i64 a0_0, .int .i64 a0_1, .int .i64 a0_2, .int .i64 a0_3, .int .i64 a0_4, .int .i64 a0_5, .int .i64 a0_6, .int .i64 a0_7, .int .i64 a0_8, .int .i64 a0_9, .int .i64 a0_10, .int .i64 a0_11, .int .i64 a0_12, .int .i64 a0_13, .int .i64 a0_14, .slice A0_15 l0_15.length c0_15, .slice A0_16 l0_16.length c0_16]) (t := 68) ?hr ?_; (case hd => rfl); (case hg => rfl); (case hr => first | (go_simp; done) | (go_simp; rfl)); intro gb252 hg w2 hbox hb; have n0_ := Aside0.mk (below_step (by repeat (first | (with_reducible first | exact HB.out | apply below_alloc | apply pw_below_drewN | apply below_drew1) | exact HB.out)) hb); have n1_ := Aside0.mk (hbox); have n2_ := Aside0.mk ((by rw [hg]; exact (below_size (by repeat (first | (with_reducible first | exact HB.out | apply below_alloc | apply pw_below_drewN | apply below_drew1) | exact HB.out))) : w.heap.size ≤ gb252)); have n3_ := Aside0.mk ((by rw [hg]; exact (below_size (by repeat (first | (with_reducible first | exact HB.out | apply below_alloc | apply pw_below_drewN | apply below_drew1) | exact HB.out))) : w.heap.size ≤ gb252)); clear HB; have HB := n0_; have BK252 := n1_; have GW252 := n2_; have GE252 := n3_; clear n0_ n1_ n2_ n3_; clear hb hbox hg))
  go_loopg [3, 6] k (fun kq v3 v6 w' => ∃ (x3_1 : Int) (x6_1 : Int), v3 = .int .i64 x3_1 ∧ v6 = .int .i64 x6_1 ∧ Aside0 (timeboundref36_Words.l0 kq x3_1 x6_1 a0_0 a0_1 a0_2 a0_3 a0_4 a0_5 a0_6 a0_7 a0_8 a0_9 a0_10 a0_11 a0_12 a0_13 a0_14 l0_15 l0_16 = some r) ∧ Aside0 (kq ≤ k) ∧ Aside0 (w'.heap[gb252]? = some (.cells #[.int .i64 a0_0, .int .i64 a0_1, .int .i64 a0_2, .int .i64 a0_3, .int .i64 a0_4, .int .i64 a0_5, .int .i64 a0_6, .int .i64 a0_7, .int .i64 a0_8, .int .i64 a0_9, .int .i64 a0_10, .int .i64 a0_11, .int .i64 a0_12, .int .i64 a0_13, .int .i64 a0_14, (.slice A0_15 l0_15.length c0_15), (.slice A0_16 l0_16.length c0_16)] 68 (0, 0))) ∧ Aside0 (Below w.heap.size w w'))
  case atStart => exact ⟨(0), (0), (by first | rfl | (simp; done) | (simp [*]; done)), (by first | rfl | (simp; done) | (simp [*]; done)), H', ⟨Nat.le_refl _⟩, ⟨by (with_reducible repeat (first | refine blk_drewN ?_ _ | refine blk_drew ?_ | refine blk_alloc ?_ _)); exact BK252.out⟩, ⟨by repeat (first | (with_reducible first | exact HB.out | apply below_alloc | apply pw_below_drewN | apply below_drew1 | refine below_set ?_ GE252.out) | exact HB.out)⟩⟩
  case round =>
    clear H'
    try clear p2
    obtain ⟨x3_1, x6_1, rfl, rfl, HA, HK1, BK252, HB⟩ := hrel
    cases gk with
    | zero => exact absurd HA.out (by simp [timeboundref36_Words.l0])
    | succ k1 =>
      have H := HA.out
      clear HA
      simp only [timeboundref36_Words.l0] at H
      by_cases c3 : x6_1 < 1024
      · rw [if_pos c3] at H
        have c3b0 : decide (x6_1 < 1024) = true := decide_eq_true c3
        clear c3
        replace H := Option.bind_eq_some_iff.mp H
        obtain ⟨t253, A40, H⟩ := H
        replace H : (if t253 = true then (timeboundref36_Words.l0 k1 (wrap64 (x3_1 + 1)) (wrap64 (x6_1 + 1)) a0_0 a0_1 a0_2 a0_3 a0_4 a0_5 a0_6 a0_7 a0_8 a0_9 a0_10 a0_11 a0_12 a0_13 a0_14 l0_15 l0_16) else (timeboundref36_Words.l0 k1 x3_1 (wrap64 (x6_1 + 1)) a0_0 a0_1 a0_2 a0_3 a0_4 a0_5 a0_6 a0_7 a0_8 a0_9 a0_10 a0_11 a0_12 a0_13 a0_14 l0_15 l0_16)) = some r := H
        have A4 := Aside0.mk A40
        clear A40
        by_cases c5 : t253 = true
        · subst c5
          have H1 : (timeboundref36_Words.l0 k1 (wrap64 (x3_1 + 1)) (wrap64 (x6_1 + 1)) a0_0 a0_1 a0_2 a0_3 a0_4 a0_5 a0_6 a0_7 a0_8 a0_9 a0_10 a0_11 a0_12 a0_13 a0_14 l0_15 l0_16) = some r := by rw [if_pos rfl] at H; exact H
          clear H
          have H := H1
          clear H1
          have H' := Aside0.mk H
          clear H
          have hcz6_0 : wr.cell? ⟨gb252, 0, none⟩ = some (.int .i64 a0_0) := (blk_cell BK252.out 0).trans rfl
          have hcz6_1 : wr.cell? ⟨gb252, 1, none⟩ = some (.int .i64 a0_1) := (blk_cell BK252.out 1).trans rfl
          have hcz6_2 : wr.cell? ⟨gb252, 2, none⟩ = some (.int .i64 a0_2) := (blk_cell BK252.out 2).trans rfl
          have hcz6_3 : wr.cell? ⟨gb252, 3, none⟩ = some (.int .i64 a0_3) := (blk_cell BK252.out 3).trans rfl
          have hcz6_4 : wr.cell? ⟨gb252, 4, none⟩ = some (.int .i64 a0_4) := (blk_cell BK252.out 4).trans rfl
          have hcz6_5 : wr.cell? ⟨gb252, 5, none⟩ = some (.int .i64 a0_5) := (blk_cell BK252.out 5).trans rfl
          have hcz6_6 : wr.cell? ⟨gb252, 6, none⟩ = some (.int .i64 a0_6) := (blk_cell BK252.out 6).trans rfl
          have hcz6_7 : wr.cell? ⟨gb252, 7, none⟩ = some (.int .i64 a0_7) := (blk_cell BK252.out 7).trans rfl
          have hcz6_8 : wr.cell? ⟨gb252, 8, none⟩ = some (.int .i64 a0_8) := (blk_cell BK252.out 8).trans rfl
          have hcz6_9 : wr.cell? ⟨gb252, 9, none⟩ = some (.int .i64 a0_9) := (blk_cell BK252.out 9).trans rfl
          have hcz6_10 : wr.cell? ⟨gb252, 10, none⟩ = some (.int .i64 a0_10) := (blk_cell BK252.out 10).trans rfl
          have hcz6_11 : wr.cell? ⟨gb252, 11, none⟩ = some (.int .i64 a0_11) := (blk_cell BK252.out 11).trans rfl
          have hcz6_12 : wr.cell? ⟨gb252, 12, none⟩ = some (.int .i64 a0_12) := (blk_cell BK252.out 12).trans rfl
          have hcz6_13 : wr.cell? ⟨gb252, 13, none⟩ = some (.int .i64 a0_13) := (blk_cell BK252.out 13).trans rfl
          have hcz6_14 : wr.cell? ⟨gb252, 14, none⟩ = some (.int .i64 a0_14) := (blk_cell BK252.out 14).trans rfl
          have hcz6_15 : wr.cell? ⟨gb252, 15, none⟩ = some (.slice A0_15 l0_15.length c0_15) := (blk_cell BK252.out 15).trans rfl
          have hcz6_16 : wr.cell? ⟨gb252, 16, none⟩ = some (.slice A0_16 l0_16.length c0_16) := (blk_cell BK252.out 16).trans rfl
          have hfz6_0 := blk_frozen BK252.out 0
          have hfz6_1 := blk_frozen BK252.out 1
          have hfz6_2 := blk_frozen BK252.out 2
          have hfz6_3 := blk_frozen BK252.out 3
          have hfz6_4 := blk_frozen BK252.out 4
          have hfz6_5 := blk_frozen BK252.out 5
          have hfz6_6 := blk_frozen BK252.out 6
          have hfz6_7 := blk_frozen BK252.out 7
          have hfz6_8 := blk_frozen BK252.out 8
          have hfz6_9 := blk_frozen BK252.out 9
          have hfz6_10 := blk_frozen BK252.out 10
          have hfz6_11 := blk_frozen BK252.out 11
          have hfz6_12 := blk_frozen BK252.out 12
          have hfz6_13 := blk_frozen BK252.out 13
          have hfz6_14 := blk_frozen BK252.out 14
          have hfz6_15 := blk_frozen BK252.out 15
          have hfz6_16 := blk_frozen BK252.out 16
          go_wp2_with (first | ((with_reducible refine gate_callee (f := 43) rfl ?_); refine goesL_ (some 12) rfl rfl Try.func43 (by kernel_rfl) rfl #[.slice A0_15 l0_15.length c0_15, .int .i64 x6_1] rfl (by (try simp only [List.map_toArray, List.map_cons, List.map_nil]); first | done | rfl | (simp only [List.length_drop, List.length_take]; rfl)) ?_; (with_reducible refine (timeboundref23_Scratch.calls k1 _ _ l0_15 x6_1 true _ ?side1 ?side2 A4.out).mono ?_); (case side1 => repeat (first | exact (Kd.C_below HR0_15.out HB.out) | (with_reducible refine Kd.C_alloc ?_ _) | (with_reducible refine Kd.C_drewN ?_ _) | (with_reducible refine Kd.C_drew ?_))); (case side2 => exact HC0_15.out); rintro e w' ⟨rfl, ⟨nd, rfl⟩⟩; refine ⟨_, rfl, ?_⟩))
          go_roundg k1
          case measure => have := HK1.out; omega
          case rel => exact ⟨(wrap64 (x3_1 + 1)), (wrap64 (x6_1 + 1)), (by first | rfl | (simp; done) | (simp [*]; done)), (by first | rfl | (simp; done) | (simp [*]; done)), H', ⟨by have := HK1.out; omega⟩, ⟨by (with_reducible repeat (first | refine blk_drewN ?_ _ | refine blk_drew ?_ | refine blk_alloc ?_ _)); exact BK252.out⟩, ⟨by repeat (first | (with_reducible first | exact HB.out | apply below_alloc | apply pw_below_drewN | apply below_drew1 | refine below_set ?_ GE252.out) | exact HB.out)⟩⟩
        · replace c5 := Bool.eq_false_iff.mpr c5
          subst c5
          have H1 : (timeboundref36_Words.l0 k1 x3_1 (wrap64 (x6_1 + 1)) a0_0 a0_1 a0_2 a0_3 a0_4 a0_5 a0_6 a0_7 a0_8 a0_9 a0_10 a0_11 a0_12 a0_13 a0_14 l0_15 l0_16) = some r := by rw [if_neg (show ¬ (false = true) by decide)] at H; exact H
          clear H
          have H := H1
          clear H1
          have H' := Aside0.mk H
          clear H
          have hcz7_0 : wr.cell? ⟨gb252, 0, none⟩ = some (.int .i64 a0_0) := (blk_cell BK252.out 0).trans rfl
          have hcz7_1 : wr.cell? ⟨gb252, 1, none⟩ = some (.int .i64 a0_1) := (blk_cell BK252.out 1).trans rfl
          have hcz7_2 : wr.cell? ⟨gb252, 2, none⟩ = some (.int .i64 a0_2) := (blk_cell BK252.out 2).trans rfl
          have hcz7_3 : wr.cell? ⟨gb252, 3, none⟩ = some (.int .i64 a0_3) := (blk_cell BK252.out 3).trans rfl
          have hcz7_4 : wr.cell? ⟨gb252, 4, none⟩ = some (.int .i64 a0_4) := (blk_cell BK252.out 4).trans rfl
          have hcz7_5 : wr.cell? ⟨gb252, 5, none⟩ = some (.int .i64 a0_5) := (blk_cell BK252.out 5).trans rfl
          have hcz7_6 : wr.cell? ⟨gb252, 6, none⟩ = some (.int .i64 a0_6) := (blk_cell BK252.out 6).trans rfl
          have hcz7_7 : wr.cell? ⟨gb252, 7, none⟩ = some (.int .i64 a0_7) := (blk_cell BK252.out 7).trans rfl
          have hcz7_8 : wr.cell? ⟨gb252, 8, none⟩ = some (.int .i64 a0_8) := (blk_cell BK252.out 8).trans rfl
          have hcz7_9 : wr.cell? ⟨gb252, 9, none⟩ = some (.int .i64 a0_9) := (blk_cell BK252.out 9).trans rfl
          have hcz7_10 : wr.cell? ⟨gb252, 10, none⟩ = some (.int .i64 a0_10) := (blk_cell BK252.out 10).trans rfl
          have hcz7_11 : wr.cell? ⟨gb252, 11, none⟩ = some (.int .i64 a0_11) := (blk_cell BK252.out 11).trans rfl
          have hcz7_12 : wr.cell? ⟨gb252, 12, none⟩ = some (.int .i64 a0_12) := (blk_cell BK252.out 12).trans rfl
          have hcz7_13 : wr.cell? ⟨gb252, 13, none⟩ = some (.int .i64 a0_13) := (blk_cell BK252.out 13).trans rfl
          have hcz7_14 : wr.cell? ⟨gb252, 14, none⟩ = some (.int .i64 a0_14) := (blk_cell BK252.out 14).trans rfl
          have hcz7_15 : wr.cell? ⟨gb252, 15, none⟩ = some (.slice A0_15 l0_15.length c0_15) := (blk_cell BK252.out 15).trans rfl
          have hcz7_16 : wr.cell? ⟨gb252, 16, none⟩ = some (.slice A0_16 l0_16.length c0_16) := (blk_cell BK252.out 16).trans rfl
          have hfz7_0 := blk_frozen BK252.out 0
          have hfz7_1 := blk_frozen BK252.out 1
          have hfz7_2 := blk_frozen BK252.out 2
          have hfz7_3 := blk_frozen BK252.out 3
          have hfz7_4 := blk_frozen BK252.out 4
          have hfz7_5 := blk_frozen BK252.out 5
          have hfz7_6 := blk_frozen BK252.out 6
          have hfz7_7 := blk_frozen BK252.out 7
          have hfz7_8 := blk_frozen BK252.out 8
          have hfz7_9 := blk_frozen BK252.out 9
          have hfz7_10 := blk_frozen BK252.out 10
          have hfz7_11 := blk_frozen BK252.out 11
          have hfz7_12 := blk_frozen BK252.out 12
          have hfz7_13 := blk_frozen BK252.out 13
          have hfz7_14 := blk_frozen BK252.out 14
          have hfz7_15 := blk_frozen BK252.out 15
          have hfz7_16 := blk_frozen BK252.out 16
          go_wp2_with (first | ((with_reducible refine gate_callee (f := 43) rfl ?_); refine goesL_ (some 12) rfl rfl Try.func43 (by kernel_rfl) rfl #[.slice A0_15 l0_15.length c0_15, .int .i64 x6_1] rfl (by (try simp only [List.map_toArray, List.map_cons, List.map_nil]); first | done | rfl | (simp only [List.length_drop, List.length_take]; rfl)) ?_; (with_reducible refine (timeboundref23_Scratch.calls k1 _ _ l0_15 x6_1 false _ ?side1 ?side2 A4.out).mono ?_); (case side1 => repeat (first | exact (Kd.C_below HR0_15.out HB.out) | (with_reducible refine Kd.C_alloc ?_ _) | (with_reducible refine Kd.C_drewN ?_ _) | (with_reducible refine Kd.C_drew ?_))); (case side2 => exact HC0_15.out); rintro e w' ⟨rfl, ⟨nd, rfl⟩⟩; refine ⟨_, rfl, ?_⟩))
          go_roundg k1
          case measure => have := HK1.out; omega
          case rel => exact ⟨(x3_1), (wrap64 (x6_1 + 1)), (by first | rfl | (simp; done) | (simp [*]; done)), (by first | rfl | (simp; done) | (simp [*]; done)), H', ⟨by have := HK1.out; omega⟩, ⟨by (with_reducible repeat (first | refine blk_drewN ?_ _ | refine blk_drew ?_ | refine blk_alloc ?_ _)); exact BK252.out⟩, ⟨by repeat (first | (with_reducible first | exact HB.out | apply below_alloc | apply pw_below_drewN | apply below_drew1 | refine below_set ?_ GE252.out) | exact HB.out)⟩⟩
      · rw [if_neg c3] at H
        have c3b0 : decide (x6_1 < 1024) = false := decide_eq_false c3
        clear c3
        have H' := Aside0.mk H
        clear H
        go_wp2
        go_loopg [3, 16] k1 (fun kq v3 v16 w' => ∃ (x3_2 : Int) (x16_2 : Int), v3 = .int .i64 x3_2 ∧ v16 = .int .i64 x16_2 ∧ Aside0 (timeboundref36_Words.l1 kq x3_2 x16_2 a0_0 a0_1 a0_2 a0_3 a0_4 a0_5 a0_6 a0_7 a0_8 a0_9 a0_10 a0_11 a0_12 a0_13 a0_14 l0_15 l0_16 = some r) ∧ Aside0 (kq ≤ k1) ∧ Aside0 (w'.heap[gb252]? = some (.cells #[.int .i64 a0_0, .int .i64 a0_1, .int .i64 a0_2, .int .i64 a0_3, .int .i64 a0_4, .int .i64 a0_5, .int .i64 a0_6, .int .i64 a0_7, .int .i64 a0_8, .int .i64 a0_9, .int .i64 a0_10, .int .i64 a0_11, .int .i64 a0_12, .int .i64 a0_13, .int .i64 a0_14, (.slice A0_15 l0_15.length c0_15), (.slice A0_16 l0_16.length c0_16)] 68 (0, 0))) ∧ Aside0 (Below w.heap.size w w'))
        case atStart => exact ⟨(x3_1), (0), (by first | rfl | (simp; done) | (simp [*]; done)), (by first | rfl | (simp; done) | (simp [*]; done)), H', ⟨Nat.le_refl _⟩, ⟨by (with_reducible repeat (first | refine blk_drewN ?_ _ | refine blk_drew ?_ | refine blk_alloc ?_ _)); exact BK252.out⟩, ⟨by repeat (first | (with_reducible first | exact HB.out | apply below_alloc | apply pw_below_drewN | apply below_drew1 | refine below_set ?_ GE252.out) | exact HB.out)⟩⟩
        case round =>
          clear H'
          try clear p2
          try clear c3
          try clear c3b0
          try clear c4
          try clear c5
          try clear c6
          try clear p6
          try clear hcz6_0
          try clear hcz6_1
          try clear hcz6_10
          try clear hcz6_11
          try clear hcz6_12
          try clear hcz6_13
          try clear hcz6_14
          try clear hcz6_15
          try clear hcz6_16
          try clear hcz6_2
          try clear hcz6_3
          try clear hcz6_4
          try clear hcz6_5
          try clear hcz6_6
          try clear hcz6_7
          try clear hcz6_8
          try clear hcz6_9
          try clear hcz7_0
          try clear hcz7_1
          try clear hcz7_10
          try clear hcz7_11
          try clear hcz7_12
          try clear hcz7_13
          try clear hcz7_14
          try clear hcz7_15
          try clear hcz7_16
          try clear hcz7_2
          try clear hcz7_3
          try clear hcz7_4
          try clear hcz7_5
          try clear hcz7_6
          try clear hcz7_7
          try clear hcz7_8
          try clear hcz7_9
          try clear hfz6_0
          try clear hfz6_1
          try clear hfz6_10
          try clear hfz6_11
          try clear hfz6_12
          try clear hfz6_13
          try clear hfz6_14
          try clear hfz6_15
          try clear hfz6_16
          try clear hfz6_2
          try clear hfz6_3
          try clear hfz6_4
          try clear hfz6_5
          try clear hfz6_6
          try clear hfz6_7
          try clear hfz6_8
          try clear hfz6_9
          try clear hfz7_0
          try clear hfz7_1
          try clear hfz7_10
          try clear hfz7_11
          try clear hfz7_12
          try clear hfz7_13
          try clear hfz7_14
          try clear hfz7_15
          try clear hfz7_16
          try clear hfz7_2
          try clear hfz7_3
          try clear hfz7_4
          try clear hfz7_5
          try clear hfz7_6
          try clear hfz7_7
          try clear hfz7_8
          try clear hfz7_9
          try clear p2
          obtain ⟨x3_2, x16_2, rfl, rfl, HA, HK2, BK252, HB⟩ := hrel
          cases gk with
          | zero => exact absurd HA.out (by simp [timeboundref36_Words.l1])
          | succ k2 =>
            have H := HA.out
            clear HA
            simp only [timeboundref36_Words.l1] at H
            by_cases c8 : x16_2 < 1024
            · rw [if_pos c8] at H
              have c8b0 : decide (x16_2 < 1024) = true := decide_eq_true c8
              clear c8
              replace H := Option.bind_eq_some_iff.mp H
              obtain ⟨t254, A90, H⟩ := H
              replace H : (if t254 = true then (timeboundref36_Words.l1 k2 (wrap64 (x3_2 + 1)) (wrap64 (x16_2 + 1)) a0_0 a0_1 a0_2 a0_3 a0_4 a0_5 a0_6 a0_7 a0_8 a0_9 a0_10 a0_11 a0_12 a0_13 a0_14 l0_15 l0_16) else (timeboundref36_Words.l1 k2 x3_2 (wrap64 (x16_2 + 1)) a0_0 a0_1 a0_2 a0_3 a0_4 a0_5 a0_6 a0_7 a0_8 a0_9 a0_10 a0_11 a0_12 a0_13 a0_14 l0_15 l0_16)) = some r := H
              have A9 := Aside0.mk A90
              clear A90
              by_cases c10 : t254 = true
              · subst c10
                have H1 : (timeboundref36_Words.l1 k2 (wrap64 (x3_2 + 1)) (wrap64 (x16_2 + 1)) a0_0 a0_1 a0_2 a0_3 a0_4 a0_5 a0_6 a0_7 a0_8 a0_9 a0_10 a0_11 a0_12 a0_13 a0_14 l0_15 l0_16) = some r := by rw [if_pos rfl] at H; exact H
                clear H
                have H := H1
                clear H1
                have H' := Aside0.mk H
                clear H
                have hcz11_0 : wr.cell? ⟨gb252, 0, none⟩ = some (.int .i64 a0_0) := (blk_cell BK252.out 0).trans rfl
                have hcz11_1 : wr.cell? ⟨gb252, 1, none⟩ = some (.int .i64 a0_1) := (blk_cell BK252.out 1).trans rfl
                have hcz11_2 : wr.cell? ⟨gb252, 2, none⟩ = some (.int .i64 a0_2) := (blk_cell BK252.out 2).trans rfl
                have hcz11_3 : wr.cell? ⟨gb252, 3, none⟩ = some (.int .i64 a0_3) := (blk_cell BK252.out 3).trans rfl
                have hcz11_4 : wr.cell? ⟨gb252, 4, none⟩ = some (.int .i64 a0_4) := (blk_cell BK252.out 4).trans rfl
                have hcz11_5 : wr.cell? ⟨gb252, 5, none⟩ = some (.int .i64 a0_5) := (blk_cell BK252.out 5).trans rfl
                have hcz11_6 : wr.cell? ⟨gb252, 6, none⟩ = some (.int .i64 a0_6) := (blk_cell BK252.out 6).trans rfl
                have hcz11_7 : wr.cell? ⟨gb252, 7, none⟩ = some (.int .i64 a0_7) := (blk_cell BK252.out 7).trans rfl
                have hcz11_8 : wr.cell? ⟨gb252, 8, none⟩ = some (.int .i64 a0_8) := (blk_cell BK252.out 8).trans rfl
                have hcz11_9 : wr.cell? ⟨gb252, 9, none⟩ = some (.int .i64 a0_9) := (blk_cell BK252.out 9).trans rfl
                have hcz11_10 : wr.cell? ⟨gb252, 10, none⟩ = some (.int .i64 a0_10) := (blk_cell BK252.out 10).trans rfl
                have hcz11_11 : wr.cell? ⟨gb252, 11, none⟩ = some (.int .i64 a0_11) := (blk_cell BK252.out 11).trans rfl
                have hcz11_12 : wr.cell? ⟨gb252, 12, none⟩ = some (.int .i64 a0_12) := (blk_cell BK252.out 12).trans rfl
                have hcz11_13 : wr.cell? ⟨gb252, 13, none⟩ = some (.int .i64 a0_13) := (blk_cell BK252.out 13).trans rfl
                have hcz11_14 : wr.cell? ⟨gb252, 14, none⟩ = some (.int .i64 a0_14) := (blk_cell BK252.out 14).trans rfl
                have hcz11_15 : wr.cell? ⟨gb252, 15, none⟩ = some (.slice A0_15 l0_15.length c0_15) := (blk_cell BK252.out 15).trans rfl
                have hcz11_16 : wr.cell? ⟨gb252, 16, none⟩ = some (.slice A0_16 l0_16.length c0_16) := (blk_cell BK252.out 16).trans rfl
                have hfz11_0 := blk_frozen BK252.out 0
                have hfz11_1 := blk_frozen BK252.out 1
                have hfz11_2 := blk_frozen BK252.out 2
                have hfz11_3 := blk_frozen BK252.out 3
                have hfz11_4 := blk_frozen BK252.out 4
                have hfz11_5 := blk_frozen BK252.out 5
                have hfz11_6 := blk_frozen BK252.out 6
                have hfz11_7 := blk_frozen BK252.out 7
                have hfz11_8 := blk_frozen BK252.out 8
                have hfz11_9 := blk_frozen BK252.out 9
                have hfz11_10 := blk_frozen BK252.out 10
                have hfz11_11 := blk_frozen BK252.out 11
                have hfz11_12 := blk_frozen BK252.out 12
                have hfz11_13 := blk_frozen BK252.out 13
                have hfz11_14 := blk_frozen BK252.out 14
                have hfz11_15 := blk_frozen BK252.out 15
                have hfz11_16 := blk_frozen BK252.out 16
                go_wp2_with (first | ((with_reducible refine gate_callee (f := 43) rfl ?_); refine goesL_ (some 22) rfl rfl Try.func43 (by kernel_rfl) rfl #[.slice A0_16 l0_16.length c0_16, .int .i64 x16_2] rfl (by (try simp only [List.map_toArray, List.map_cons, List.map_nil]); first | done | rfl | (simp only [List.length_drop, List.length_take]; rfl)) ?_; (with_reducible refine (timeboundref23_Scratch.calls k2 _ _ l0_16 x16_2 true _ ?side1 ?side2 A9.out).mono ?_); (case side1 => repeat (first | exact (Kd.C_below HR0_16.out HB.out) | (with_reducible refine Kd.C_alloc ?_ _) | (with_reducible refine Kd.C_drewN ?_ _) | (with_reducible refine Kd.C_drew ?_))); (case side2 => exact HC0_16.out); rintro e w' ⟨rfl, ⟨nd, rfl⟩⟩; refine ⟨_, rfl, ?_⟩))
                go_roundg k2
                case measure => have := HK1.out; have := HK2.out; omega
                case rel => exact ⟨(wrap64 (x3_2 + 1)), (wrap64 (x16_2 + 1)), (by first | rfl | (simp; done) | (simp [*]; done)), (by first | rfl | (simp; done) | (simp [*]; done)), H', ⟨by have := HK1.out; have := HK2.out; omega⟩, ⟨by (with_reducible repeat (first | refine blk_drewN ?_ _ | refine blk_drew ?_ | refine blk_alloc ?_ _)); exact BK252.out⟩, ⟨by repeat (first | (with_reducible first | exact HB.out | apply below_alloc | apply pw_below_drewN | apply below_drew1 | refine below_set ?_ GE252.out) | exact HB.out)⟩⟩
              · replace c10 := Bool.eq_false_iff.mpr c10
                subst c10
                have H1 : (timeboundref36_Words.l1 k2 x3_2 (wrap64 (x16_2 + 1)) a0_0 a0_1 a0_2 a0_3 a0_4 a0_5 a0_6 a0_7 a0_8 a0_9 a0_10 a0_11 a0_12 a0_13 a0_14 l0_15 l0_16) = some r := by rw [if_neg (show ¬ (false = true) by decide)] at H; exact H
                clear H
                have H := H1
                clear H1
                have H' := Aside0.mk H
                clear H
                have hcz12_0 : wr.cell? ⟨gb252, 0, none⟩ = some (.int .i64 a0_0) := (blk_cell BK252.out 0).trans rfl
                have hcz12_1 : wr.cell? ⟨gb252, 1, none⟩ = some (.int .i64 a0_1) := (blk_cell BK252.out 1).trans rfl
                have hcz12_2 : wr.cell? ⟨gb252, 2, none⟩ = some (.int .i64 a0_2) := (blk_cell BK252.out 2).trans rfl
                have hcz12_3 : wr.cell? ⟨gb252, 3, none⟩ = some (.int .i64 a0_3) := (blk_cell BK252.out 3).trans rfl
                have hcz12_4 : wr.cell? ⟨gb252, 4, none⟩ = some (.int .i64 a0_4) := (blk_cell BK252.out 4).trans rfl
                have hcz12_5 : wr.cell? ⟨gb252, 5, none⟩ = some (.int .i64 a0_5) := (blk_cell BK252.out 5).trans rfl
                have hcz12_6 : wr.cell? ⟨gb252, 6, none⟩ = some (.int .i64 a0_6) := (blk_cell BK252.out 6).trans rfl
                have hcz12_7 : wr.cell? ⟨gb252, 7, none⟩ = some (.int .i64 a0_7) := (blk_cell BK252.out 7).trans rfl
                have hcz12_8 : wr.cell? ⟨gb252, 8, none⟩ = some (.int .i64 a0_8) := (blk_cell BK252.out 8).trans rfl
                have hcz12_9 : wr.cell? ⟨gb252, 9, none⟩ = some (.int .i64 a0_9) := (blk_cell BK252.out 9).trans rfl
                have hcz12_10 : wr.cell? ⟨gb252, 10, none⟩ = some (.int .i64 a0_10) := (blk_cell BK252.out 10).trans rfl
                have hcz12_11 : wr.cell? ⟨gb252, 11, none⟩ = some (.int .i64 a0_11) := (blk_cell BK252.out 11).trans rfl
                have hcz12_12 : wr.cell? ⟨gb252, 12, none⟩ = some (.int .i64 a0_12) := (blk_cell BK252.out 12).trans rfl
                have hcz12_13 : wr.cell? ⟨gb252, 13, none⟩ = some (.int .i64 a0_13) := (blk_cell BK252.out 13).trans rfl
                have hcz12_14 : wr.cell? ⟨gb252, 14, none⟩ = some (.int .i64 a0_14) := (blk_cell BK252.out 14).trans rfl
                have hcz12_15 : wr.cell? ⟨gb252, 15, none⟩ = some (.slice A0_15 l0_15.length c0_15) := (blk_cell BK252.out 15).trans rfl
                have hcz12_16 : wr.cell? ⟨gb252, 16, none⟩ = some (.slice A0_16 l0_16.length c0_16) := (blk_cell BK252.out 16).trans rfl
                have hfz12_0 := blk_frozen BK252.out 0
                have hfz12_1 := blk_frozen BK252.out 1
                have hfz12_2 := blk_frozen BK252.out 2
                have hfz12_3 := blk_frozen BK252.out 3
                have hfz12_4 := blk_frozen BK252.out 4
                have hfz12_5 := blk_frozen BK252.out 5
                have hfz12_6 := blk_frozen BK252.out 6
                have hfz12_7 := blk_frozen BK252.out 7
                have hfz12_8 := blk_frozen BK252.out 8
                have hfz12_9 := blk_frozen BK252.out 9
                have hfz12_10 := blk_frozen BK252.out 10
                have hfz12_11 := blk_frozen BK252.out 11
                have hfz12_12 := blk_frozen BK252.out 12
                have hfz12_13 := blk_frozen BK252.out 13
                have hfz12_14 := blk_frozen BK252.out 14
                have hfz12_15 := blk_frozen BK252.out 15
                have hfz12_16 := blk_frozen BK252.out 16
                go_wp2_with (first | ((with_reducible refine gate_callee (f := 43) rfl ?_); refine goesL_ (some 22) rfl rfl Try.func43 (by kernel_rfl) rfl #[.slice A0_16 l0_16.length c0_16, .int .i64 x16_2] rfl (by (try simp only [List.map_toArray, List.map_cons, List.map_nil]); first | done | rfl | (simp only [List.length_drop, List.length_take]; rfl)) ?_; (with_reducible refine (timeboundref23_Scratch.calls k2 _ _ l0_16 x16_2 false _ ?side1 ?side2 A9.out).mono ?_); (case side1 => repeat (first | exact (Kd.C_below HR0_16.out HB.out) | (with_reducible refine Kd.C_alloc ?_ _) | (with_reducible refine Kd.C_drewN ?_ _) | (with_reducible refine Kd.C_drew ?_))); (case side2 => exact HC0_16.out); rintro e w' ⟨rfl, ⟨nd, rfl⟩⟩; refine ⟨_, rfl, ?_⟩))
                go_roundg k2
                case measure => have := HK1.out; have := HK2.out; omega
                case rel => exact ⟨(x3_2), (wrap64 (x16_2 + 1)), (by first | rfl | (simp; done) | (simp [*]; done)), (by first | rfl | (simp; done) | (simp [*]; done)), H', ⟨by have := HK1.out; have := HK2.out; omega⟩, ⟨by (with_reducible repeat (first | refine blk_drewN ?_ _ | refine blk_drew ?_ | refine blk_alloc ?_ _)); exact BK252.out⟩, ⟨by repeat (first | (with_reducible first | exact HB.out | apply below_alloc | apply pw_below_drewN | apply below_drew1 | refine below_set ?_ GE252.out) | exact HB.out)⟩⟩
            · rw [if_neg c8] at H
              have c8b0 : decide (x16_2 < 1024) = false := decide_eq_false c8
              clear c8
              obtain rfl := Option.some.inj H
              go_wp2
              go_ret
              exact ⟨by first | rfl | (simp [errW_none, errW_some] <;> rfl) | (simp [*, errW_none, errW_some] <;> rfl), by repeat (first | (with_reducible first | exact HB.out | apply below_alloc | apply pw_below_drewN | apply below_drew1 | refine below_set ?_ GE252.out) | exact HB.out)⟩

end Go.Proofs.Ytdgegoefehmfmaa.QScratchPlaces
