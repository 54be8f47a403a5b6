-- Written for this claim by this session's own program (wip/pp).
import Derived.Test.YtdgegoefehmfmaaQScratchPlacesx0
import Derived.Test.YtdgegoefehmfmaaQScratchPlacesx6
namespace Go.Proofs.Ytdgegoefehmfmaa.QScratchPlaces
open Go.RowKit Go.Proofs.YtdgegoefehmfmaaW.PrintWords Go.Proofs.YtdgegoefehmfmaaW.PrintLast Go.Proofs.YtdgegoefehmfmaaW.PrintMore
attribute [local go_sem] max2_int min2_int max_two min_two max_three min_three max_four min_four   -- for this text's walks alone
set_option linter.unusedVariables false
set_option linter.unusedSimpArgs false

/-! ### timeboundlaw36_same: function 62 -/
theorem eqA65 (d : Nat) (w : World) (x0 y0 : Int) (x1 y1 : Int) (x2 y2 : Int) :
    (Op.equalIn (d + 2) 65 (.agg #[.int .i64 x0, .int .i64 x1, .int .i64 x2]) (.agg #[.int .i64 y0, .int .i64 y1, .int .i64 y2])).run Try.prog w = .ok (x0 == y0 && (x1 == y1 && (x2 == y2))) w := by
  refine eqA_of Try.underlying65 (by kernel_rfl) ?_
  refine eqf_cons (by rfl) (by go_simp; rfl) (by go_simp; rfl) (by go_simp) ?_
  refine eqf_cons (by rfl) (by go_simp; rfl) (by go_simp; rfl) (by go_simp) ?_
  exact eqf_last (by rfl) (by go_simp; rfl) (by go_simp; rfl) (by go_simp)
theorem eqA74 (d : Nat) (w : World) (x0 y0 : Int) (x1 y1 : Int) :
    (Op.equalIn (d + 2) 74 (.agg #[.int .i64 x0, .int .i64 x1]) (.agg #[.int .i64 y0, .int .i64 y1])).run Try.prog w = .ok (x0 == y0 && (x1 == y1)) w := by
  refine eqA_of Try.underlying74 (by kernel_rfl) ?_
  refine eqf_cons (by rfl) (by go_simp; rfl) (by go_simp; rfl) (by go_simp) ?_
  exact eqf_last (by rfl) (by go_simp; rfl) (by go_simp; rfl) (by go_simp)
attribute [local go_sem high] eqA65 eqA74
set_option maxHeartbeats 4000000 in
set_option maxRecDepth 100000 in
theorem same36_any (p0 p1 p2 p3 p4 p5 p6 p7 p8 p9 p10 p11 p12 p13 p14 : Int) (A B A' B' : Option Addr) (ca cb ca' cb' : Nat) (c d : List S74) (w : World) (h1 : Kd.C k74 w A c.length c) (h2 : Kd.C k74 w B d.length d) (h3 : Kd.C k74 w A' c.length c) (h4 : Kd.C k74 w B' d.length d) :
    Calls Try.prog 62 #[.agg #[.int .i64 p0, .int .i64 p1, .int .i64 p2, .int .i64 p3, .int .i64 p4, .int .i64 p5, .int .i64 p6, .int .i64 p7, .int .i64 p8, .int .i64 p9, .int .i64 p10, .int .i64 p11, .int .i64 p12, .int .i64 p13, .int .i64 p14, .slice A c.length ca, .slice B d.length cb], .agg #[.int .i64 p0, .int .i64 p1, .int .i64 p2, .int .i64 p3, .int .i64 p4, .int .i64 p5, .int .i64 p6, .int .i64 p7, .int .i64 p8, .int .i64 p9, .int .i64 p10, .int .i64 p11, .int .i64 p12, .int .i64 p13, .int .i64 p14, .slice A' c.length ca', .slice B' d.length cb']] w fun e w' => e = .returned (.bool true) ∧ Below w.heap.size w w' := by
  have hu68 := Try.underlying68
  have hu65 := Try.underlying65
  have hu74 := Try.underlying74
  have K1 := Aside0.mk h1
  have N1 := Aside0.mk h1.2.1
  have K2 := Aside0.mk h2
  have N2 := Aside0.mk h2.2.1
  have K3 := Aside0.mk h3
  have N3 := Aside0.mk h3.2.1
  have K4 := Aside0.mk h4
  have N4 := Aside0.mk h4.2.1
  have HB := Aside0.mk (below_alloc (below_alloc (Below.refl w.heap.size w) (.cells #[.int .i64 p0, .int .i64 p1, .int .i64 p2, .int .i64 p3, .int .i64 p4, .int .i64 p5, .int .i64 p6, .int .i64 p7, .int .i64 p8, .int .i64 p9, .int .i64 p10, .int .i64 p11, .int .i64 p12, .int .i64 p13, .int .i64 p14, .slice A c.length ca, .slice B d.length cb] 68 (0, 0))) (.cells #[.int .i64 p0, .int .i64 p1, .int .i64 p2, .int .i64 p3, .int .i64 p4, .int .i64 p5, .int .i64 p6, .int .i64 p7, .int .i64 p8, .int .i64 p9, .int .i64 p10, .int .i64 p11, .int .i64 p12, .int .i64 p13, .int .i64 p14, .slice A' c.length ca', .slice B' d.length cb'] 68 (0, 0)))
  have LA := Aside0.mk (blk_alloc (heap_alloc_last w (.cells #[.int .i64 p0, .int .i64 p1, .int .i64 p2, .int .i64 p3, .int .i64 p4, .int .i64 p5, .int .i64 p6, .int .i64 p7, .int .i64 p8, .int .i64 p9, .int .i64 p10, .int .i64 p11, .int .i64 p12, .int .i64 p13, .int .i64 p14, .slice A c.length ca, .slice B d.length cb] 68 (0, 0))) (.cells #[.int .i64 p0, .int .i64 p1, .int .i64 p2, .int .i64 p3, .int .i64 p4, .int .i64 p5, .int .i64 p6, .int .i64 p7, .int .i64 p8, .int .i64 p9, .int .i64 p10, .int .i64 p11, .int .i64 p12, .int .i64 p13, .int .i64 p14, .slice A' c.length ca', .slice B' d.length cb'] 68 (0, 0)))
  have hlb := heap_alloc_last (w.alloc (.cells #[.int .i64 p0, .int .i64 p1, .int .i64 p2, .int .i64 p3, .int .i64 p4, .int .i64 p5, .int .i64 p6, .int .i64 p7, .int .i64 p8, .int .i64 p9, .int .i64 p10, .int .i64 p11, .int .i64 p12, .int .i64 p13, .int .i64 p14, .slice A c.length ca, .slice B d.length cb] 68 (0, 0))) (.cells #[.int .i64 p0, .int .i64 p1, .int .i64 p2, .int .i64 p3, .int .i64 p4, .int .i64 p5, .int .i64 p6, .int .i64 p7, .int .i64 p8, .int .i64 p9, .int .i64 p10, .int .i64 p11, .int .i64 p12, .int .i64 p13, .int .i64 p14, .slice A' c.length ca', .slice B' d.length cb'] 68 (0, 0))
  rw [show (w.alloc (.cells #[.int .i64 p0, .int .i64 p1, .int .i64 p2, .int .i64 p3, .int .i64 p4, .int .i64 p5, .int .i64 p6, .int .i64 p7, .int .i64 p8, .int .i64 p9, .int .i64 p10, .int .i64 p11, .int .i64 p12, .int .i64 p13, .int .i64 p14, .slice A c.length ca, .slice B d.length cb] 68 (0, 0))).heap.size = w.heap.size + 1 from by simp] at hlb
  have LB := Aside0.mk hlb
  clear h1 h2 h3 h4 hlb
  have x0 := blk_cell LA.out 0
  have y0 := blk_cell LB.out 0
  have x1 := blk_cell LA.out 1
  have y1 := blk_cell LB.out 1
  have x2 := blk_cell LA.out 2
  have y2 := blk_cell LB.out 2
  have x3 := blk_cell LA.out 3
  have y3 := blk_cell LB.out 3
  have x4 := blk_cell LA.out 4
  have y4 := blk_cell LB.out 4
  have x5 := blk_cell LA.out 5
  have y5 := blk_cell LB.out 5
  have x6 := blk_cell LA.out 6
  have y6 := blk_cell LB.out 6
  have x7 := blk_cell LA.out 7
  have y7 := blk_cell LB.out 7
  have x8 := blk_cell LA.out 8
  have y8 := blk_cell LB.out 8
  have x9 := blk_cell LA.out 9
  have y9 := blk_cell LB.out 9
  have x10 := blk_cell LA.out 10
  have y10 := blk_cell LB.out 10
  have x11 := blk_cell LA.out 11
  have y11 := blk_cell LB.out 11
  have x12 := blk_cell LA.out 12
  have y12 := blk_cell LB.out 12
  have x13 := blk_cell LA.out 13
  have y13 := blk_cell LB.out 13
  have x14 := blk_cell LA.out 14
  have y14 := blk_cell LB.out 14
  have x15 := blk_cell LA.out 15
  have y15 := blk_cell LB.out 15
  have x16 := blk_cell LA.out 16
  have y16 := blk_cell LB.out 16
  have n1 : (c.length != c.length) = false := by simp
  have n2 : (d.length != d.length) = false := by simp
  have n3 : ((c.length : Int) != (c.length : Int)) = false := by simp
  have n4 : ((d.length : Int) != (d.length : Int)) = false := by simp
  have e0 : (p0 == p0) = true := beq_self_eq_true _
  have f0 : (p0 != p0) = false := by simp
  have e1 : (p1 == p1) = true := beq_self_eq_true _
  have f1 : (p1 != p1) = false := by simp
  have e2 : (p2 == p2) = true := beq_self_eq_true _
  have f2 : (p2 != p2) = false := by simp
  have e3 : (p3 == p3) = true := beq_self_eq_true _
  have f3 : (p3 != p3) = false := by simp
  have e4 : (p4 == p4) = true := beq_self_eq_true _
  have f4 : (p4 != p4) = false := by simp
  have e5 : (p5 == p5) = true := beq_self_eq_true _
  have f5 : (p5 != p5) = false := by simp
  have e6 : (p6 == p6) = true := beq_self_eq_true _
  have f6 : (p6 != p6) = false := by simp
  have e7 : (p7 == p7) = true := beq_self_eq_true _
  have f7 : (p7 != p7) = false := by simp
  have e8 : (p8 == p8) = true := beq_self_eq_true _
  have f8 : (p8 != p8) = false := by simp
  have e9 : (p9 == p9) = true := beq_self_eq_true _
  have f9 : (p9 != p9) = false := by simp
  have e10 : (p10 == p10) = true := beq_self_eq_true _
  have f10 : (p10 != p10) = false := by simp
  have e11 : (p11 == p11) = true := beq_self_eq_true _
  have f11 : (p11 != p11) = false := by simp
  have e12 : (p12 == p12) = true := beq_self_eq_true _
  have f12 : (p12 != p12) = false := by simp
  have e13 : (p13 == p13) = true := beq_self_eq_true _
  have f13 : (p13 != p13) = false := by simp
  have e14 : (p14 == p14) = true := beq_self_eq_true _
  have f14 : (p14 != p14) = false := by simp
  go_enter Try.func62, Try.ntmps62
  go_wp2_with fail
  clear x0 y0 x1 y1 x2 y2 x3 y3 x4 y4 x5 y5 x6 y6 x7 y7 x8 y8 x9 y9 x10 y10 x11 y11 x12 y12 x13 y13 x14 y14
  clear n1 n2 n3 n4 e0 f0 e1 f1 e2 f2 e3 f3 e4 f4 e5 f5 e6 f6 e7 f7 e8 f8 e9 f9 e10 f10 e11 f11 e12 f12 e13 f13 e14 f14
  generalize (w.alloc (.cells #[.int .i64 p0, .int .i64 p1, .int .i64 p2, .int .i64 p3, .int .i64 p4, .int .i64 p5, .int .i64 p6, .int .i64 p7, .int .i64 p8, .int .i64 p9, .int .i64 p10, .int .i64 p11, .int .i64 p12, .int .i64 p13, .int .i64 p14, .slice A c.length ca, .slice B d.length cb] 68 (0, 0))).alloc (.cells #[.int .i64 p0, .int .i64 p1, .int .i64 p2, .int .i64 p3, .int .i64 p4, .int .i64 p5, .int .i64 p6, .int .i64 p7, .int .i64 p8, .int .i64 p9, .int .i64 p10, .int .i64 p11, .int .i64 p12, .int .i64 p13, .int .i64 p14, .slice A' c.length ca', .slice B' d.length cb'] 68 (0, 0)) = w1 at *
  go_loopw [103] (fun i wr => ∃ k : Nat, k ≤ c.length ∧ i = .int .i64 k ∧ Aside0 (Below w1.heap.size w1 wr)) (fun i _ => c.length - (intOf i).toNat)
  case atStart => exact ⟨0, Nat.zero_le _, rfl, ⟨Below.refl _ _⟩⟩
  case round =>
    obtain ⟨k, hk, rfl, HW⟩ := hrel
    have x15 := blk_cell (blk_below LA.out HW.out) 15
    have y15 := blk_cell (blk_below LB.out HW.out) 15
    have hnn := N1.out
    by_cases hlt : k < c.length
    · obtain ⟨ad, e, a0, a1⟩ := at_T74 (Kd.C_below K1.out (below_step HB.out HW.out)) (k : Int) (by omega) (by omega)
      obtain ⟨ad', e', b0, b1⟩ := at_T74 (Kd.C_below K3.out (below_step HB.out HW.out)) (k : Int) (by omega) (by omega)
      cases e
      cases e'
      generalize rd_T74 c (k : Int) = s at *
      simp only [Int.toNat_natCast] at a0 a1 b0 b1
      have e0 : (s.f0 == s.f0) = true := beq_self_eq_true _
      have e1 : (s.f1 == s.f1) = true := beq_self_eq_true _
      go_wp2_with fail
      go_quiet (fail)
      go_wp2_with fail
      go_roundw
      case rel => exact ⟨k + 1, by omega, by go_num, ⟨pw_below_drewN HW.out _⟩⟩
      case measure => simp [intOf]; omega
    · skip
      have HV := HW
      have hkc : decide (k < c.length) = false := decide_eq_false (by omega)
      have x16 := blk_cell (blk_below LA.out HW.out) 16
      go_wp2_with fail
      clear x15 y15 hkc x16
      go_loopw [121] (fun i wr => ∃ k : Nat, k ≤ d.length ∧ i = .int .i64 k ∧ Aside0 (Below w1.heap.size w1 wr)) (fun i _ => d.length - (intOf i).toNat)
      case atStart => exact ⟨0, Nat.zero_le _, rfl, HV⟩
      case round =>
        obtain ⟨k, hk, rfl, HW⟩ := hrel
        have x16 := blk_cell (blk_below LA.out HW.out) 16
        have y16 := blk_cell (blk_below LB.out HW.out) 16
        have hnn := N2.out
        by_cases hlt : k < d.length
        · obtain ⟨ad, e, a0, a1⟩ := at_T74 (Kd.C_below K2.out (below_step HB.out HW.out)) (k : Int) (by omega) (by omega)
          obtain ⟨ad', e', b0, b1⟩ := at_T74 (Kd.C_below K4.out (below_step HB.out HW.out)) (k : Int) (by omega) (by omega)
          cases e
          cases e'
          generalize rd_T74 d (k : Int) = s at *
          simp only [Int.toNat_natCast] at a0 a1 b0 b1
          have e0 : (s.f0 == s.f0) = true := beq_self_eq_true _
          have e1 : (s.f1 == s.f1) = true := beq_self_eq_true _
          go_wp2_with fail
          go_quiet (fail)
          go_wp2_with fail
          go_roundw
          case rel => exact ⟨k + 1, by omega, by go_num, ⟨pw_below_drewN HW.out _⟩⟩
          case measure => simp [intOf]; omega
        · rename_i hlt0
          have HZ := Aside0.mk (below_step HB.out HW.out)
          have HLT : decide (k < d.length) = false := decide_eq_false (by omega)
          go_wp2_with fail
          go_ret
          exact ⟨rfl, HZ.out⟩
instance decSpan36 : DecidableEq S74 := fun a b => decidable_of_iff (a.f0 = b.f0 ∧ a.f1 = b.f1) (by cases a; cases b; simp)
def timeboundlaw36_same.f (a0_0 : Int) (a0_1 : Int) (a0_2 : Int) (a0_3 : Int) (a0_4 : Int) (a0_5 : Int) (a0_6 : Int) (a0_7 : Int) (a0_8 : Int) (a0_9 : Int) (a0_10 : Int) (a0_11 : Int) (a0_12 : Int) (a0_13 : Int) (a0_14 : Int) (l0_15 l0_16 : List S74) (a1_0 : Int) (a1_1 : Int) (a1_2 : Int) (a1_3 : Int) (a1_4 : Int) (a1_5 : Int) (a1_6 : Int) (a1_7 : Int) (a1_8 : Int) (a1_9 : Int) (a1_10 : Int) (a1_11 : Int) (a1_12 : Int) (a1_13 : Int) (a1_14 : Int) (l1_15 l1_16 : List S74) : Option Bool := if a0_0 = a1_0 ∧ a0_1 = a1_1 ∧ a0_2 = a1_2 ∧ a0_3 = a1_3 ∧ a0_4 = a1_4 ∧ a0_5 = a1_5 ∧ a0_6 = a1_6 ∧ a0_7 = a1_7 ∧ a0_8 = a1_8 ∧ a0_9 = a1_9 ∧ a0_10 = a1_10 ∧ a0_11 = a1_11 ∧ a0_12 = a1_12 ∧ a0_13 = a1_13 ∧ a0_14 = a1_14 ∧ l0_15 = l1_15 ∧ l0_16 = l1_16 then some true else none
theorem timeboundlaw36_same.calls (a0_0 : Int) (a0_1 : Int) (a0_2 : Int) (a0_3 : Int) (a0_4 : Int) (a0_5 : Int) (a0_6 : Int) (a0_7 : Int) (a0_8 : Int) (a0_9 : Int) (a0_10 : Int) (a0_11 : Int) (a0_12 : Int) (a0_13 : Int) (a0_14 : Int) (A0_15 : Option Addr) (c0_15 : Nat) (l0_15 : List S74) (A0_16 : Option Addr) (c0_16 : Nat) (l0_16 : List S74) (a1_0 : Int) (a1_1 : Int) (a1_2 : Int) (a1_3 : Int) (a1_4 : Int) (a1_5 : Int) (a1_6 : Int) (a1_7 : Int) (a1_8 : Int) (a1_9 : Int) (a1_10 : Int) (a1_11 : Int) (a1_12 : Int) (a1_13 : Int) (a1_14 : Int) (A1_15 : Option Addr) (c1_15 : Nat) (l1_15 : List S74) (A1_16 : Option Addr) (c1_16 : Nat) (l1_16 : List S74) (r : Bool) (w : World) (hr0_15 : Kd.C k74 w A0_15 l0_15.length l0_15) (hc0_15 : l0_15.length ≤ c0_15) (hr0_16 : Kd.C k74 w A0_16 l0_16.length l0_16) (hc0_16 : l0_16.length ≤ c0_16) (hr1_15 : Kd.C k74 w A1_15 l1_15.length l1_15) (hc1_15 : l1_15.length ≤ c1_15) (hr1_16 : Kd.C k74 w A1_16 l1_16.length l1_16) (hc1_16 : l1_16.length ≤ c1_16) (h : timeboundlaw36_same.f a0_0 a0_1 a0_2 a0_3 a0_4 a0_5 a0_6 a0_7 a0_8 a0_9 a0_10 a0_11 a0_12 a0_13 a0_14 l0_15 l0_16 a1_0 a1_1 a1_2 a1_3 a1_4 a1_5 a1_6 a1_7 a1_8 a1_9 a1_10 a1_11 a1_12 a1_13 a1_14 l1_15 l1_16 = some r) :
    Calls Try.prog 62 #[.agg #[.int .i64 a0_0, .int .i64 a0_1, .int .i64 a0_2, .int .i64 a0_3, .int .i64 a0_4, .int .i64 a0_5, .int .i64 a0_6, .int .i64 a0_7, .int .i64 a0_8, .int .i64 a0_9, .int .i64 a0_10, .int .i64 a0_11, .int .i64 a0_12, .int .i64 a0_13, .int .i64 a0_14, .slice A0_15 l0_15.length c0_15, .slice A0_16 l0_16.length c0_16], .agg #[.int .i64 a1_0, .int .i64 a1_1, .int .i64 a1_2, .int .i64 a1_3, .int .i64 a1_4, .int .i64 a1_5, .int .i64 a1_6, .int .i64 a1_7, .int .i64 a1_8, .int .i64 a1_9, .int .i64 a1_10, .int .i64 a1_11, .int .i64 a1_12, .int .i64 a1_13, .int .i64 a1_14, .slice A1_15 l1_15.length c1_15, .slice A1_16 l1_16.length c1_16]] w fun e w' => e = .returned (.bool r) ∧ Below w.heap.size w w' := by
  unfold timeboundlaw36_same.f at h
  split at h
  · obtain ⟨rfl, rfl, rfl, rfl, rfl, rfl, rfl, rfl, rfl, rfl, rfl, rfl, rfl, rfl, rfl, rfl, rfl⟩ := ‹_ ∧ _›
    obtain rfl := Option.some.inj h
    exact same36_any _ _ _ _ _ _ _ _ _ _ _ _ _ _ _ A0_15 A0_16 A1_15 A1_16 c0_15 c0_16 c1_15 c1_16 _ _ w hr0_15 hr0_16 hr1_15 hr1_16
  · cases h

-- NOT PRINTED: function 145 (api_Span_145)

-- NOT PRINTED: function 146 (scratch_count_1)

/-! ### scratch_count: function 112 -/
-- LEAF slices.SortFunc[[]timebound/api.Span,timebound/api.Span]
/-- The numbers of this program for the shelf's. -/
def sRen : Go.Shelf.Ren := ⟨fun k => if k = 6 then 145 else if k = 14 then 156 else if k = 15 then 157 else if k = 20 then 160 else if k = 21 then 161 else if k = 22 then 162 else if k = 23 then 163 else if k = 24 then 164 else if k = 25 then 165 else if k = 26 then 166 else if k = 27 then 167 else if k = 28 then 168 else if k = 29 then 169 else if k = 46 then 170 else if k = 47 then 171 else if k = 48 then 172 else if k = 49 then 173 else if k = 50 then 174 else if k = 57 then 175 else 0, fun k => if k = 0 then 0 else if k = 3 then 3 else if k = 4 then 4 else if k = 5 then 5 else if k = 9 then 9 else if k = 22 then 66 else if k = 24 then 74 else if k = 25 then 189 else if k = 39 then 62 else if k = 45 then 201 else if k = 46 then 202 else if k = 50 then 41 else if k = 53 then 208 else if k = 55 then 170 else if k = 66 then 210 else if k = 70 then 214 else if k = 76 then 216 else if k = 77 then 217 else 0, fun g => g⟩
theorem sLays : SlLaysF0.n6 Try.prog sRen where
  mixed := by kernel_rfl
  f6 := ⟨"slices.SortFunc[[]timebound/api.Span,timebound/api.Span]", by decide, by kernel_rfl⟩
  f14 := ⟨"slices.pdqsortCmpFunc[timebound/api.Span]", by decide, by kernel_rfl⟩
  f15 := by kernel_rfl
  f20 := ⟨"slices.insertionSortCmpFunc[timebound/api.Span]", by decide, by kernel_rfl⟩
  f21 := ⟨"slices.heapSortCmpFunc[timebound/api.Span]", by decide, by kernel_rfl⟩
  f22 := ⟨"slices.breakPatternsCmpFunc[timebound/api.Span]", by decide, by kernel_rfl⟩
  f23 := ⟨"slices.choosePivotCmpFunc[timebound/api.Span]", by decide, by kernel_rfl⟩
  f24 := ⟨"slices.reverseRangeCmpFunc[timebound/api.Span]", by decide, by kernel_rfl⟩
  f25 := ⟨"slices.partialInsertionSortCmpFunc[timebound/api.Span]", by decide, by kernel_rfl⟩
  f26 := ⟨"slices.partitionEqualCmpFunc[timebound/api.Span]", by decide, by kernel_rfl⟩
  f27 := ⟨"slices.partitionCmpFunc[timebound/api.Span]", by decide, by kernel_rfl⟩
  f28 := by kernel_rfl
  f29 := by kernel_rfl
  f46 := ⟨"slices.siftDownCmpFunc[timebound/api.Span]", by decide, by kernel_rfl⟩
  f47 := by kernel_rfl
  f48 := by kernel_rfl
  f49 := ⟨"slices.medianAdjacentCmpFunc[timebound/api.Span]", by decide, by kernel_rfl⟩
  f50 := ⟨"slices.medianCmpFunc[timebound/api.Span]", by decide, by kernel_rfl⟩
  f57 := ⟨"slices.order2CmpFunc[timebound/api.Span]", by decide, by kernel_rfl⟩
  t0 := by kernel_rfl
  a0 := fun _ => by kernel_rfl
  z0 := fun _ => by kernel_rfl
  v0 := fun _ => by kernel_rfl
  t3 := by kernel_rfl
  a3 := fun _ => by kernel_rfl
  z3 := fun _ => by kernel_rfl
  v3 := fun _ => by kernel_rfl
  t4 := by kernel_rfl
  a4 := fun _ => by kernel_rfl
  z4 := fun _ => by kernel_rfl
  v4 := fun _ => by kernel_rfl
  t5 := by kernel_rfl
  a5 := fun _ => by kernel_rfl
  z5 := fun _ => by kernel_rfl
  v5 := fun _ => by kernel_rfl
  t9 := by kernel_rfl
  a9 := fun _ => by kernel_rfl
  z9 := fun _ => by kernel_rfl
  v9 := fun _ => by kernel_rfl
  t22 := by kernel_rfl
  a22 := fun _ => by kernel_rfl
  z22 := fun _ => by kernel_rfl
  v22 := fun _ => by kernel_rfl
  t25 := by kernel_rfl
  a25 := fun _ => by kernel_rfl
  z25 := fun _ => by kernel_rfl
  v25 := fun _ => by kernel_rfl
  t39 := by kernel_rfl
  a39 := fun _ => by kernel_rfl
  z39 := fun _ => by kernel_rfl
  v39 := fun _ => by kernel_rfl
  t45 := by kernel_rfl
  a45 := fun _ => by kernel_rfl
  z45 := fun _ => by kernel_rfl
  v45 := fun _ => by kernel_rfl
  t46 := by kernel_rfl
  a46 := fun _ => by kernel_rfl
  z46 := fun _ => by kernel_rfl
  v46 := fun _ => by kernel_rfl
  t50 := by kernel_rfl
  a50 := fun _ => by kernel_rfl
  z50 := fun _ => by kernel_rfl
  v50 := fun _ => by kernel_rfl
  t53 := by kernel_rfl
  a53 := fun _ => by kernel_rfl
  z53 := fun _ => by kernel_rfl
  v53 := fun _ => by kernel_rfl
  t55 := by kernel_rfl
  a55 := fun _ => by kernel_rfl
  z55 := fun _ => by kernel_rfl
  v55 := fun _ => by kernel_rfl
  t66 := by kernel_rfl
  a66 := fun _ => by kernel_rfl
  z66 := fun _ => by kernel_rfl
  v66 := fun _ => by kernel_rfl
  t70 := by kernel_rfl
  a70 := fun _ => by kernel_rfl
  z70 := fun _ => by kernel_rfl
  v70 := fun _ => by kernel_rfl
  t76 := by kernel_rfl
  a76 := fun _ => by kernel_rfl
  z76 := fun _ => by kernel_rfl
  v76 := fun _ => by kernel_rfl
  t77 := by kernel_rfl
  a77 := fun _ => by kernel_rfl
  z77 := fun _ => by kernel_rfl
  v77 := fun _ => by kernel_rfl
/-! #### counting addresses -/
def cov (l : List S74) (a : Int) : Bool := l.any fun s => decide (s.f0 ≤ a) && decide (a < s.f1)
def cntStep (p : Int × Int) (s : S74) : Int × Int := if s.f1 > (if p.2 < s.f0 then s.f0 else p.2) then (p.1 + s.f1 - (if p.2 < s.f0 then s.f0 else p.2), s.f1) else p
theorem countP_or {α : Type} (p q : α → Bool) (l : List α) (h : ∀ a ∈ l, ¬ (p a = true ∧ q a = true)) : l.countP (fun a => p a || q a) = l.countP p + l.countP q := by
  induction l with
  | nil => rfl
  | cons a l ih =>
    have h1 := h a (by simp)
    have h2 := ih (fun b hb => h b (by simp [hb]))
    simp only [List.countP_cons]
    cases hp : p a <;> cases hq : q a <;> simp_all <;> omega
theorem countP_seg (N : Nat) (x y : Int) (hx : 0 ≤ x) (hxy : x ≤ y) (hy : y ≤ N) : (((List.range N).countP fun a : Nat => decide (x ≤ (a : Int)) && decide ((a : Int) < y) : Nat) : Int) = y - x := by
  induction N generalizing y with
  | zero => simp; omega
  | succ N ih =>
    rw [List.range_succ, List.countP_append]
    by_cases h : y ≤ N
    · have h1 := ih y hxy h
      have h2 : List.countP (fun a : Nat => decide (x ≤ (a : Int)) && decide ((a : Int) < y)) [N] = 0 := by
        simp; omega
      rw [h2]; omega
    · have hy1 : y = N + 1 := by omega
      subst hy1
      by_cases hx1 : x = (N : Int) + 1
      · have : List.countP (fun a : Nat => decide (x ≤ (a : Int)) && decide ((a : Int) < (N : Int) + 1)) (List.range N) = 0 := by
          rw [List.countP_eq_zero]; intro a ha; simp at ha ⊢; omega
        have h6 : List.countP (fun a : Nat => decide (x ≤ (a : Int)) && decide ((a : Int) < (N : Int) + 1)) [N] = 0 := by
          rw [List.countP_singleton, if_neg]; simp; omega
        rw [this, h6]; omega
      · have h1 := ih N (by omega) (by omega)
        have h3 : List.countP (fun a : Nat => decide (x ≤ (a : Int)) && decide ((a : Int) < (N : Int) + 1)) (List.range N) = List.countP (fun a : Nat => decide (x ≤ (a : Int)) && decide ((a : Int) < N)) (List.range N) := by
          apply List.countP_congr; intro a ha; simp at ha ⊢; omega
        have h2 : List.countP (fun a : Nat => decide (x ≤ (a : Int)) && decide ((a : Int) < (N : Int) + 1)) [N] = 1 := by
          have h5 : x ≤ (N : Int) := by omega
          have h6 : (N : Int) < N + 1 := by omega
          rw [List.countP_singleton, if_pos]; simp only [h5, h6, decide_true, Bool.and_self]
        rw [h2, h3]; omega
def wordsN (l : List S74) (N : Nat) : Nat := (List.range N).countP fun a : Nat => cov l (a : Int)
/-- What stands behind the spans that were counted. -/
structure CntOk (N : Nat) (P : List S74) (p : Int × Int) : Prop where
  n : p.1 = wordsN P N
  at0 : 0 ≤ p.2
  atN : p.2 ≤ N
  below : ∀ a, cov P a = true → a < p.2
  full : ∀ a, 0 ≤ a → (∀ s ∈ P, s.f0 ≤ a) → a < p.2 → cov P a = true
theorem CntOk.start (N : Nat) : CntOk N [] (0, 0) := ⟨by simp [wordsN, cov], Int.le_refl _, by simp, by simp [cov], by intro a h0 _ h2; simp at h2; omega⟩
theorem cov_snoc (P : List S74) (s : S74) (a : Int) : cov (P ++ [s]) a = (cov P a || (decide (s.f0 ≤ a) && decide (a < s.f1))) := by simp [cov]
theorem CntOk.step {N : Nat} {P : List S74} {p : Int × Int} (h : CntOk N P p) (s : S74) (h0 : 0 ≤ s.f0) (h1 : s.f0 ≤ s.f1) (hN : s.f1 ≤ N) (hs : ∀ t ∈ P, t.f0 ≤ s.f0) : CntOk N (P ++ [s]) (cntStep p s) := by
  obtain ⟨n, at_⟩ := p
  obtain ⟨hn, a0, aN, hb, hf⟩ := h
  simp only at hn a0 aN hb hf
  unfold cntStep
  simp only
  generalize hfr : (if at_ < s.f0 then s.f0 else at_) = fr
  have f1 : s.f0 ≤ fr ∧ at_ ≤ fr ∧ 0 ≤ fr ∧ (fr = s.f0 ∨ fr = at_) := by split at hfr <;> omega
  by_cases hc : s.f1 > fr
  · rw [if_pos hc]
    have key : ∀ a : Int, 0 ≤ a → cov (P ++ [s]) a = (cov P a || (decide (fr ≤ a) && decide (a < s.f1))) := by
      intro a ha
      rw [cov_snoc]
      cases hp : cov P a with
      | true => simp
      | false =>
        simp only [Bool.false_or]
        by_cases h2 : fr ≤ a
        · simp [h2, show s.f0 ≤ a by omega]
        · have : ¬ (s.f0 ≤ a ∧ a < s.f1) := by
            intro h3
            have := hf a ha (fun t ht => by have := hs t ht; omega) (by omega)
            rw [hp] at this; cases this
          simp only [h2, decide_false, Bool.false_and]
          simp only [← Bool.decide_and, decide_eq_false_iff_not]; exact this
    refine ⟨?_, by simp only; omega, by simp only; omega, ?_, ?_⟩
    · simp only
      have e : wordsN (P ++ [s]) N = (List.range N).countP (fun a : Nat => cov P (a : Int) || (decide (fr ≤ (a : Int)) && decide ((a : Int) < s.f1))) := by
        unfold wordsN
        apply List.countP_congr
        intro a _
        rw [key a (by omega)]
      rw [e, countP_or _ _ _ (by
        intro a _ ⟨h3, h4⟩
        have := hb _ h3
        simp at h4
        omega)]
      have := countP_seg N fr s.f1 (by omega) (by omega) hN
      rw [hn]; unfold wordsN; omega
    · intro a ha
      rw [cov_snoc] at ha
      simp only
      cases hp : cov P a with
      | true => have := hb a hp; omega
      | false => rw [hp] at ha; simp at ha; omega
    · intro a ha hall hlt
      simp only at hlt
      rw [key a ha]
      have := hall s (by simp)
      by_cases h2 : fr ≤ a
      · simp [h2, hlt]
      · rw [hf a ha (fun t ht => hall t (by simp [ht])) (by omega)]; rfl
  · rw [if_neg hc]
    have key : ∀ a : Int, 0 ≤ a → cov (P ++ [s]) a = cov P a := by
      intro a ha
      rw [cov_snoc]
      cases hp : cov P a with
      | true => simp
      | false =>
        simp only [Bool.false_or]
        simp only [← Bool.decide_and, decide_eq_false_iff_not]
        intro h3
        have := hf a ha (fun t ht => by have := hs t ht; omega) (by omega)
        rw [hp] at this; cases this
    refine ⟨?_, a0, aN, ?_, ?_⟩
    · have e : wordsN (P ++ [s]) N = wordsN P N := by
        unfold wordsN
        apply List.countP_congr
        intro a _
        rw [key a (by omega)]
      rw [e]; exact hn
    · intro a ha
      rw [cov_snoc] at ha
      cases hp : cov P a with
      | true => have := hb a hp; exact this
      | false => rw [hp] at ha; simp at ha; simp only; omega
    · intro a ha hall hlt
      rw [key a ha]
      exact hf a ha (fun t ht => hall t (by simp [ht])) hlt
theorem CntOk.all (N : Nat) : ∀ (Q P : List S74) (p : Int × Int), CntOk N P p → (∀ s ∈ Q, 0 ≤ s.f0 ∧ s.f0 ≤ s.f1 ∧ s.f1 ≤ N) → (P ++ Q).Pairwise (fun s t => s.f0 ≤ t.f0) → CntOk N (P ++ Q) (Q.foldl cntStep p)
  | [], P, p, h, _, _ => by simpa using h
  | s :: Q, P, p, h, hb, hp => by
    have h1 := hb s (by simp)
    have h2 : ∀ t ∈ P, t.f0 ≤ s.f0 := fun t ht => (List.pairwise_append.1 hp).2.2 t ht s (by simp)
    have := CntOk.all N Q (P ++ [s]) (cntStep p s) (h.step s h1.1 h1.2.1 h1.2.2 h2) (fun t ht => hb t (by simp [ht])) (by simpa using hp)
    simpa using this
theorem cov_perm {l l' : List S74} (h : l'.Perm l) (a : Int) : cov l' a = cov l a := by
  unfold cov
  rw [Bool.eq_iff_iff]
  simp only [List.any_eq_true]
  exact ⟨fun ⟨s, hs, h2⟩ => ⟨s, h.mem_iff.1 hs, h2⟩, fun ⟨s, hs, h2⟩ => ⟨s, h.mem_iff.2 hs, h2⟩⟩
theorem count_sorted {N : Nat} {l l' : List S74} (hp : l'.Perm l) (hs : l'.Pairwise (fun s t => s.f0 ≤ t.f0)) (hb : ∀ s ∈ l, 0 ≤ s.f0 ∧ s.f0 ≤ s.f1 ∧ s.f1 ≤ N) : (l'.foldl cntStep (0, 0)).1 = wordsN l N := by
  have := (CntOk.all N l' [] (0, 0) (CntOk.start N) (fun s h => hb s (hp.mem_iff.1 h)) (by simpa using hs)).n
  rw [this]
  unfold wordsN
  rw [List.nil_append]
  have : List.countP (fun a : Nat => cov l' (a : Int)) (List.range N) = List.countP (fun a : Nat => cov l (a : Int)) (List.range N) := List.countP_congr (fun a _ => by rw [cov_perm hp])
  rw [this]
instance spbInh : Inhabited {s : S74 // 0 ≤ s.f0 ∧ s.f0 ≤ 1024} := ⟨⟨⟨0, 0⟩, by decide⟩⟩
def encS (x : {s : S74 // 0 ≤ s.f0 ∧ s.f0 ≤ 1024}) : List Value := [.int .i64 x.1.f0, .int .i64 x.1.f1]
def cfS (x y : {s : S74 // 0 ≤ s.f0 ∧ s.f0 ≤ 1024}) : Int := x.1.f0 - y.1.f0
theorem ltS (x y : {s : S74 // 0 ≤ s.f0 ∧ s.f0 ≤ 1024}) : (ltOf cfS x y = true ↔ x.1.f0 < y.1.f0) ∧ (ltOf cfS x y = false ↔ y.1.f0 ≤ x.1.f0) := by
  unfold ltOf cfS
  constructor
  · rw [decide_eq_true_eq]; omega
  · rw [decide_eq_false_iff_not]; omega
theorem swoS : Go.Sort.SWO (ltOf cfS) := ⟨fun x => by rw [(ltS x x).2]; omega, fun x y z h1 h2 => by rw [(ltS _ _).1] at *; omega, fun x y z h1 h2 => by rw [(ltS _ _).2] at *; omega⟩
set_option maxHeartbeats 1000000 in
theorem cmpS (x y : {s : S74 // 0 ≤ s.f0 ∧ s.f0 ≤ 1024}) (W : World) : Calls Try.prog 146 #[.agg #[.int .i64 x.1.f0, .int .i64 x.1.f1], .agg #[.int .i64 y.1.f0, .int .i64 y.1.f1]] W fun e w' => e = .returned (.int .i64 (cfS x y)) ∧ ∃ q os', w' = Go.Sort.grow (W.drewN q) os' := by
  obtain ⟨⟨a, b⟩, h1, h2⟩ := x
  obtain ⟨⟨c, d⟩, h3, h4⟩ := y
  simp only [cfS] at *
  have hu74 := Try.underlying74
  go_enter Try.func146, Try.ntmps146
  go_wp2
  go_ret
  exact ⟨by rw [show wrap64 (a - c) = a - c from by unfold wrap64; omega]; rfl, 0, _, by rw [Go.Sort.alloc_eq_grow, Go.Sort.alloc_eq_grow, Go.Sort.grow_grow]; rfl⟩
theorem sortWorld_below {α : Type} [Inhabited α] (enc : α → List Value) (k : Nat) (w : World) (blk off m B : Nat) (d : Array α) (os : Array Obj) (hB : B ≤ blk) (hb : blk < w.heap.size) : Below B w (sortWorldK enc k w blk off m d os) := by
  refine ⟨rfl, rfl, rfl, size_sortWorldK_c enc k w blk off m d os, fun j hj => ?_⟩
  unfold sortWorldK Go.Sort.grow Go.Sort.putRowK Go.Sort.putRow Go.Sort.mapBlock Go.Sort.ahead
  simp only
  rw [Array.getElem?_append_left (by simp; omega), Array.getElem?_modify, if_neg (by omega)]
theorem holds_of_row {w : World} {base g cap : Nat} {ok : Nat → Prop} {l : List S74} (d : Array {s : S74 // 0 ≤ s.f0 ∧ s.f0 ≤ 1024}) (hd : d.toList.map (·.1) = l) (h : Kd.R k74 74 w base ok (.slice (some ⟨g, 0, none⟩) l.length cap) l) : Go.Sort.HoldsK encS 2 w g 0 d := by
  have hs : d.size = l.length := by rw [← hd]; simp
  intro t ht
  rw [Go.Sort.size_flatK] at ht
  rw [Go.Sort.get_flatK _ _ _ _ ht]
  have hi : t / 2 < l.length := by omega
  obtain ⟨_, _, _, _, hfr⟩ := Kd.R_form h (by omega)
  have hblk : ∃ cells, w.heap[g]? = some (.cells cells 74 (0, 0)) := by
    obtain ⟨g', cap', e, _, _, cells, hc⟩ := Kd.R_form h (by omega)
    injection e with e1; injection e1 with e2; injection e2 with e3
    exact ⟨cells, e3 ▸ hc⟩
  obtain ⟨cells, hc⟩ := hblk
  obtain ⟨ad, e, x0, x1⟩ := at_T74 (Kd.R_reads' h).2.2 ((t / 2 : Nat) : Int) (by omega) (by omega)
  cases e
  have hx : rd_T74 l ((t / 2 : Nat) : Int) = (d[t / 2]!).1 := by
    have h1 : t / 2 < d.size := by omega
    rw [getElem!_pos d _ h1]
    subst hd
    show ((d.toList.map (·.1)).getD ((t / 2 : Nat) : Int).toNat z74) = _
    rw [Int.toNat_natCast, List.getD_eq_getElem?_getD, List.getElem?_map]
    simp [h1]
  rw [hx] at x0 x1
  simp only [Int.toNat_natCast, add_at] at x0 x1
  refine ⟨?_, by rw [Nat.zero_add]; exact blk_frozen hc t⟩
  rcases Nat.mod_two_eq_zero_or_one t with hm | hm
  · rw [hm, Nat.zero_add, show t = t / 2 * 2 by omega]
    rw [Nat.zero_add] at x0
    simpa [encS] using x0
  · rw [hm, Nat.zero_add, show t = t / 2 * 2 + 1 by omega]
    rw [Nat.zero_add] at x1
    simpa [encS, show (t / 2 * 2 + 1) / 2 = t / 2 by omega] using x1
theorem row_of_holds {w : World} {g : Nat} {l : List S74} (d : Array {s : S74 // 0 ≤ s.f0 ∧ s.f0 ≤ 1024}) (hd : d.toList.map (·.1) = l) (hl : l.length ≤ 9223372036854775807) (h : Go.Sort.HoldsK encS 2 w g 0 d) : Kd.C k74 w (some ⟨g, 0, none⟩) l.length l := by
  have hs : d.size = l.length := by rw [← hd]; simp
  refine ⟨rfl, hl, fun _ => ⟨_, rfl, fun j p hj => ⟨_, rfl, k74_mk w p, fun i u hu => ?_⟩⟩⟩
  have hjl : j < l.length := (List.getElem?_eq_some_iff.1 hj).1
  have hp : (d[j]!).1 = p := by
    have h1 : j < d.size := by omega
    rw [getElem!_pos d _ h1]
    subst hd
    have := (List.getElem?_eq_some_iff.1 hj).2
    simpa using this
  have hi : i < 2 := by
    have := (List.getElem?_eq_some_iff.1 hu).1
    simpa using this
  have hc := (h.cell (i := j) (c := i) (by omega) hi).1
  show w.cell? ((⟨g, 0, none⟩ : Addr).add (j * 2 + i)) = _
  rw [add_at, Nat.zero_add]
  rw [Nat.zero_add] at hc
  rw [hc]
  rcases i with _ | _ | i
  · simp [encS, hp] at hu ⊢; exact hu
  · simp [encS, hp] at hu ⊢; exact hu
  · omega
def spansOk (l : List S74) : Bool := decide (l.length ≤ 16) && l.all fun s => decide (0 ≤ s.f0) && decide (s.f0 ≤ s.f1) && decide (s.f1 ≤ 1024)
theorem spansOk_mem {l : List S74} (h : spansOk l = true) : l.length ≤ 16 ∧ ∀ s ∈ l, 0 ≤ s.f0 ∧ s.f0 ≤ s.f1 ∧ s.f1 ≤ 1024 := by
  unfold spansOk at h
  rw [Bool.and_eq_true, List.all_eq_true] at h
  exact ⟨of_decide_eq_true h.1, fun s hs => by have := h.2 s hs; simp at this; omega⟩
set_option maxHeartbeats 4000000 in
/-- A row of a call's own, sorted. -/
theorem sort_row (v : Value) (l : List S74) (base : Nat) (w : World) (ho : Kd.R k74 74 w base (fun _ => True) v l) (hl : l.length ≤ 16) (hb : ∀ s ∈ l, 0 ≤ s.f0 ∧ s.f0 ≤ 1024) (hw : base ≤ w.heap.size) :
    Calls Try.prog 145 #[v, .func (.func 146) #[] #[]] w fun e w' => e = .returned (.tuple #[]) ∧ ∃ l' A c, v = .slice A l.length c ∧ l'.Perm l ∧ l'.Pairwise (fun s t => s.f0 ≤ t.f0) ∧ Kd.C k74 w' A l.length l' ∧ Below base w w' := by
  rcases Nat.eq_zero_or_pos l.length with h0 | h0
  · obtain ⟨A, c, rfl, hc, hr⟩ := Kd.R_reads ho
    have hnil : l = [] := List.length_eq_zero_iff.1 h0
    subst hnil
    exact (AnyF.slices_SortFunc_none sLays A c (.func (.func 146) #[] #[]) w).mono fun e w' ⟨he, hw'⟩ => ⟨he, [], A, c, rfl, List.Perm.refl _, List.Pairwise.nil, by rw [hw']; exact hr, by rw [hw']; exact Below.refl _ _⟩
  · obtain ⟨g, cap, rfl, hg, hgw, _⟩ := Kd.R_form ho h0
    obtain ⟨d, hd⟩ : ∃ d : Array {s : S74 // 0 ≤ s.f0 ∧ s.f0 ≤ 1024}, d.toList.map (·.1) = l := ⟨(l.attachWith _ hb).toArray, by simp⟩
    have hs : d.size = l.length := by rw [← hd]; simp
    have hH := holds_of_row d hd ho
    have eg : ∀ args w, (callFunc 146 args).run Try.prog w = .ok (.enter 146 args) w := enters_of Try.func146 (by kernel_rfl) rfl
    have hcon := AnyQ.slices_SortFunc sLays 2 (fun _ => by kernel_rfl) (fun _ => by kernel_rfl) encS (fun _ => rfl) (fun x v hv => by simp [encS] at hv; rcases hv with rfl | rfl <;> rfl) cfS swoS 146 #[] g 0 cap d w eg (fun _ _ _ _ x y => cmpS x y _) hH hgw (by omega)
    rw [hs] at hcon
    refine hcon.mono ?_
    rintro e w' ⟨he, d', n, os, hp, hsd, rfl⟩
    refine ⟨he, d'.toList.map (·.1), some ⟨g, 0, none⟩, cap, rfl, ?_, ?_, ?_, ?_⟩
    · have h1 := hp.2.2
      rw [← hs] at h1
      have e1 : d'.extract 0 d.size = d' := by rw [← hp.1]; simp
      have e2 : d.extract 0 d.size = d := by simp
      rw [e1, e2] at h1
      rw [← hd]
      exact h1.map _
    · rw [List.pairwise_iff_getElem]
      intro i j hi hj hij
      have hi' : i < d'.size := by simpa using hi
      have hj' : j < d'.size := by simpa using hj
      have := hsd i j (Nat.zero_le _) hij (by rw [← hs, ← hp.1]; exact hj')
      rw [(ltS _ _).2, getElem!_pos d' j hj', getElem!_pos d' i hi'] at this
      simpa using this
    · have hlen : (d'.toList.map (·.1)).length = l.length := by rw [← hs, ← hp.1]; simp
      have := row_of_holds (l := d'.toList.map (·.1)) d' rfl (by omega) (holdsK_sortWorldK_c encS 2 w g 0 d d' n os hH hgw (by rw [hp.1]))
      rwa [hlen] at this
    · exact sortWorld_below encS 2 w g 0 n base d' os hg hgw
def countF (l : List S74) : Int := (l.foldl cntStep (0, 0)).1
theorem cnt_fold {l : List S74} (hb : ∀ s ∈ l, 0 ≤ s.f0 ∧ s.f0 ≤ s.f1 ∧ s.f1 ≤ 1024) (p : Int × Int) (h0 : 0 ≤ p.1) (h1 : 0 ≤ p.2 ∧ p.2 ≤ 1024) : ∀ q, p.1 ≤ q → (l.foldl cntStep p).1 ≤ q + 1024 * l.length ∧ 0 ≤ (l.foldl cntStep p).1 ∧ 0 ≤ (l.foldl cntStep p).2 ∧ (l.foldl cntStep p).2 ≤ 1024 := by
  induction l generalizing p with
  | nil => intro q hq; simp; omega
  | cons s l ih =>
    intro q hq
    obtain ⟨b0, b1, b2⟩ := hb s (by simp)
    have hs : 0 ≤ (cntStep p s).1 ∧ 0 ≤ (cntStep p s).2 ∧ (cntStep p s).2 ≤ 1024 ∧ (cntStep p s).1 ≤ p.1 + 1024 := by
      unfold cntStep
      by_cases h2 : p.2 < s.f0
      · simp only [if_pos h2]
        by_cases h3 : s.f1 > s.f0
        · simp only [if_pos h3]; omega
        · simp only [if_neg h3]; omega
      · simp only [if_neg h2]
        by_cases h3 : s.f1 > p.2
        · simp only [if_pos h3]; omega
        · simp only [if_neg h3]; omega
    have := ih (fun t ht => hb t (by simp [ht])) (cntStep p s) hs.1 ⟨hs.2.1, hs.2.2.1⟩ (q + 1024) (by omega)
    rw [List.foldl_cons, List.length_cons]
    omega
set_option maxHeartbeats 4000000 in
set_option maxRecDepth 100000 in
theorem scratch_count_any (A0 : Option Addr) (c0 : Nat) (l : List S74) (w : World) (hr : Kd.C k74 w A0 l.length l) (hc : l.length ≤ c0) (hs : spansOk l = true) :
    Calls Try.prog 112 #[.slice A0 l.length c0] w fun e w' => e = .returned (.int .i64 (wordsN l 1024 : Nat)) ∧ Below w.heap.size w w' := by
  obtain ⟨hlen, hb⟩ := spansOk_mem hs
  have hu74 := Try.underlying74
  have HR := Aside0.mk hr
  have HBd := Aside0.mk hb
  clear hr hs hb
  go_enter Try.func112, Try.ntmps112
  go_wp2_with fail
  refine (api_Span_95.any A0 c0 l w HR.out hc (by omega)).mono ?_
  rintro e w1 ⟨v1, rfl, ho, hb1⟩
  have HO := Aside0.mk ho
  have HB1 := Aside0.mk hb1
  clear ho hb1
  go_wp2_with fail
  refine (sort_row v1 l w.heap.size w1 HO.out hlen (fun s h => by have := HBd.out s h; omega) HB1.out.size).mono ?_
  rintro e w2 ⟨rfl, l', A, c, rfl, hp, hsd, hC, hb2⟩
  have HN : Aside0 ((l'.foldl cntStep (0, 0)).1 = wordsN l 1024) := ⟨count_sorted hp hsd HBd.out⟩
  have HB2 := Aside0.mk (HB1.out.trans hb2)
  have HBd' : Aside0 (∀ s ∈ l', 0 ≤ s.f0 ∧ s.f0 ≤ s.f1 ∧ s.f1 ≤ 1024) := ⟨fun s h => HBd.out s (hp.mem_iff.1 h)⟩
  have hll : l'.length = l.length := hp.length_eq
  have HL := Aside0.mk hll
  rw [← hll] at hC
  have HC := Aside0.mk hC
  have hlen' : l'.length ≤ 16 := by omega
  rw [← hll]
  clear hp hsd hC hb2 hll HO HR HBd HB1
  go_wp2_with fail
  go_loopw [3, 4, 14] (fun n a i wr => ∃ k : Nat, k ≤ l'.length ∧ i = .int .i64 k ∧ n = .int .i64 ((l'.take k).foldl cntStep (0, 0)).1 ∧ a = .int .i64 ((l'.take k).foldl cntStep (0, 0)).2 ∧ Aside0 (Below w2.heap.size w2 wr)) (fun n a i _ => l'.length - (intOf i).toNat)
  case atStart => exact ⟨0, Nat.zero_le _, rfl, rfl, rfl, ⟨Below.refl _ _⟩⟩
  case round =>
    obtain ⟨k, hk, rfl, rfl, rfl, HB⟩ := hrel
    have hF := cnt_fold (l := l'.take k) (fun s h => HBd'.out s (List.mem_of_mem_take h)) (0, 0) (Int.le_refl _) ⟨Int.le_refl _, by decide⟩ 0 (Int.le_refl _)
    rw [List.length_take_of_le hk] at hF
    by_cases hlt : k < l'.length
    · obtain ⟨ad, e, x0, x1⟩ := at_T74 (Kd.C_below HC.out HB.out) (k : Int) (by omega) (by omega)
      have hx : rd_T74 l' (k : Int) = l'[k] := by simp [rd_T74, List.getD_eq_getElem?_getD, hlt]
      rw [hx] at x0 x1
      cases e
      simp only [Int.toNat_natCast] at x0 x1
      have hs := HBd'.out _ (List.getElem_mem hlt)
      have HT : Aside0 ((l'.take (k + 1)).foldl cntStep (0, 0) = cntStep ((l'.take k).foldl cntStep (0, 0)) l'[k]) := ⟨by rw [List.take_succ_eq_append_getElem hlt, List.foldl_append]; rfl⟩
      clear hx
      generalize l'[k] = s at *
      generalize (l'.take k).foldl cntStep (0, 0) = p at *
      obtain ⟨n, a⟩ := p
      obtain ⟨x, y⟩ := s
      simp only at *
      have b1 : n ≤ 20000 := by omega
      obtain ⟨g0, g1, g2, g3⟩ := hF
      obtain ⟨e0, e1, e2⟩ := hs
      by_cases hm : a < x
      · have d0 : decide (a < x) = true := decide_eq_true hm
        by_cases hgt : y > x
        · have HT' : Aside0 (cntStep (n, a) ⟨x, y⟩ = (n + y - x, y)) := ⟨by unfold cntStep; simp only; rw [if_pos hm, if_pos hgt]⟩
          have d1 : decide (x < y) = true := decide_eq_true (by omega)
          go_wp2_with fail
          go_quiet (fail)
          go_wp2_with fail
          go_roundw
          case rel => exact ⟨k + 1, by omega, by go_num, by rw [HT.out, HT'.out], by rw [HT.out, HT'.out], ⟨pw_below_drewN (below_alloc HB.out _) _⟩⟩
          case measure => simp [intOf]; omega
        · have HT' : Aside0 (cntStep (n, a) ⟨x, y⟩ = (n, a)) := ⟨by unfold cntStep; simp only; rw [if_pos hm, if_neg hgt]⟩
          have d1 : decide (x < y) = false := decide_eq_false (by omega)
          go_wp2_with fail
          go_roundw
          case rel => exact ⟨k + 1, by omega, by go_num, by rw [HT.out, HT'.out], by rw [HT.out, HT'.out], ⟨below_alloc HB.out _⟩⟩
          case measure => simp [intOf]; omega
      · have d0 : decide (a < x) = false := decide_eq_false hm
        by_cases hgt : y > a
        · have HT' : Aside0 (cntStep (n, a) ⟨x, y⟩ = (n + y - a, y)) := ⟨by unfold cntStep; simp only; rw [if_neg hm, if_pos hgt]⟩
          have d1 : decide (a < y) = true := decide_eq_true (by omega)
          go_wp2_with fail
          go_quiet (fail)
          go_wp2_with fail
          go_roundw
          case rel => exact ⟨k + 1, by omega, by go_num, by rw [HT.out, HT'.out], by rw [HT.out, HT'.out], ⟨pw_below_drewN (below_alloc HB.out _) _⟩⟩
          case measure => simp [intOf]; omega
        · have HT' : Aside0 (cntStep (n, a) ⟨x, y⟩ = (n, a)) := ⟨by unfold cntStep; simp only; rw [if_neg hm, if_neg hgt]⟩
          have d1 : decide (a < y) = false := decide_eq_false (by omega)
          go_wp2_with fail
          go_roundw
          case rel => exact ⟨k + 1, by omega, by go_num, by rw [HT.out, HT'.out], by rw [HT.out, HT'.out], ⟨below_alloc HB.out _⟩⟩
          case measure => simp [intOf]; omega
    · have hkl : k = l'.length := by omega
      subst hkl
      rw [List.take_length] at *
      have HZ := Aside0.mk (below_step HB2.out HB.out)
      rw [HN.out] at *
      go_wp2_with fail
      go_ret
      exact ⟨rfl, HZ.out⟩
def scratch_count.f (l : List S74) : Option Int := if spansOk l = true then some (wordsN l 1024 : Nat) else none
theorem scratch_count.calls (A0 : Option Addr) (c0 : Nat) (l0 : List S74) (r : Int) (w : World) (hr0 : Kd.C k74 w A0 l0.length l0) (hc0 : l0.length ≤ c0) (h : scratch_count.f l0 = some r) :
    Calls Try.prog 112 #[.slice A0 l0.length c0] w fun e w' => e = .returned (.int .i64 r) ∧ Below w.heap.size w w' := by
  unfold scratch_count.f at h
  split at h
  · obtain rfl := Option.some.inj h
    exact scratch_count_any A0 c0 l0 w hr0 hc0 (by assumption)
  · cases h

/-! ### scratch_Words: function 63 -/
def scratch_Words.f (a0_0 : Int) (a0_1 : Int) (a0_2 : Int) (a0_3 : Int) (a0_4 : Int) (a0_5 : Int) (a0_6 : Int) (a0_7 : Int) (a0_8 : Int) (a0_9 : Int) (a0_10 : Int) (a0_11 : Int) (a0_12 : Int) (a0_13 : Int) (a0_14 : Int) (l0_15 : List (S74)) (l0_16 : List (S74)) : Option (Int) := (scratch_count.f l0_15).bind fun t248 => ((scratch_count.f l0_16).bind fun t249 => (some (wrap64 (t248 + t249))))
def scratch_Words.T1 : Bool × List (List Nat × List Nat) := (true, [([], []), ([0], [0]), ([1], [1]), ([], []), ([3], [3]), ([4, 2], [4]), ([2, 5], [2, 5]), ([6, 5, 0, 1, 2, 3, 4, 5, 6], [6])])
def scratch_Words.B1 : List Nat := [0, 1, 3, 0, 8, 31, 63, 127]
theorem scratch_Words.tab1 : rtab .any (opsOf Try.f63 1) = scratch_Words.T1 := by kernel_rfl
theorem scratch_Words.bits1 : waitsOk scratch_Words.T1.2 scratch_Words.B1 = true := by kernel_rfl
set_option maxHeartbeats 8000000 in
set_option maxRecDepth 100000 in
theorem scratch_Words.calls (a0_0 : Int) (a0_1 : Int) (a0_2 : Int) (a0_3 : Int) (a0_4 : Int) (a0_5 : Int) (a0_6 : Int) (a0_7 : Int) (a0_8 : Int) (a0_9 : Int) (a0_10 : Int) (a0_11 : Int) (a0_12 : Int) (a0_13 : Int) (a0_14 : Int) (A0_15 : Option Addr) (c0_15 : Nat) (l0_15 : List (S74)) (A0_16 : Option Addr) (c0_16 : Nat) (l0_16 : List (S74)) (r : Int) (w : World) (hr0_15 : Kd.C k74 w A0_15 l0_15.length l0_15) (hc0_15 : l0_15.length ≤ c0_15) (hr0_16 : Kd.C k74 w A0_16 l0_16.length l0_16) (hc0_16 : l0_16.length ≤ c0_16) (h : scratch_Words.f a0_0 a0_1 a0_2 a0_3 a0_4 a0_5 a0_6 a0_7 a0_8 a0_9 a0_10 a0_11 a0_12 a0_13 a0_14 l0_15 l0_16 = some r) :
    Calls Try.prog 63 #[.agg #[.int .i64 a0_0, .int .i64 a0_1, .int .i64 a0_2, .int .i64 a0_3, .int .i64 a0_4, .int .i64 a0_5, .int .i64 a0_6, .int .i64 a0_7, .int .i64 a0_8, .int .i64 a0_9, .int .i64 a0_10, .int .i64 a0_11, .int .i64 a0_12, .int .i64 a0_13, .int .i64 a0_14, .slice A0_15 l0_15.length c0_15, .slice A0_16 l0_16.length c0_16]] w fun e w' => e = .returned (.int .i64 r) ∧ Below w.heap.size w w' := by
  have hu68 := Try.underlying68
  have HR0_15 := Aside0.mk hr0_15
  have HC0_15 := Aside0.mk hc0_15
  clear hr0_15 hc0_15
  have HR0_16 := Aside0.mk hr0_16
  have HC0_16 := Aside0.mk hc0_16
  clear hr0_16 hc0_16
  have HB := Aside0.mk (Below.refl w.heap.size w)
  have H : ((scratch_count.f l0_15).bind fun t248 => ((scratch_count.f l0_16).bind fun t249 => (some (wrap64 (t248 + t249))))) = some r := h
  clear h
  replace H := Option.bind_eq_some_iff.mp H
  obtain ⟨t248, A20, H⟩ := H
  replace H : ((scratch_count.f l0_16).bind fun t249 => (some (wrap64 (t248 + t249)))) = some r := H
  have A2 := Aside0.mk A20
  clear A20
  replace H := Option.bind_eq_some_iff.mp H
  obtain ⟨t249, A30, H⟩ := H
  replace H : (some (wrap64 (t248 + t249))) = some r := H
  have A3 := Aside0.mk A30
  clear A30
  obtain rfl := Option.some.inj H
  go_enter Try.func63, Try.ntmps63
  try go_wp2_with (first | ((with_reducible refine gate_dst (N := 1) rfl ?_); refine box_event ?hg (N := 1) ?hd (cs := #[.int .i64 a0_0, .int .i64 a0_1, .int .i64 a0_2, .int .i64 a0_3, .int .i64 a0_4, .int .i64 a0_5, .int .i64 a0_6, .int .i64 a0_7, .int .i64 a0_8, .int .i64 a0_9, .int .i64 a0_10, .int .i64 a0_11, .int .i64 a0_12, .int .i64 a0_13, .int .i64 a0_14, .slice A0_15 l0_15.length c0_15, .slice A0_16 l0_16.length c0_16]) (t := 68) ?hr ?_; (case hd => rfl); (case hg => rfl); (case hr => first | (go_simp; done) | (go_simp; rfl)); intro gb247 hg w4 hbox hb; have n0_ := Aside0.mk (below_step (by repeat (first | (with_reducible first | exact HB.out | apply below_alloc | apply pw_below_drewN | apply below_drew1) | exact HB.out)) hb); have n1_ := Aside0.mk (hbox); have n2_ := Aside0.mk ((by rw [hg]; exact (below_size (by repeat (first | (with_reducible first | exact HB.out | apply below_alloc | apply pw_below_drewN | apply below_drew1) | exact HB.out))) : w.heap.size ≤ gb247)); have n3_ := Aside0.mk ((by rw [hg]; exact (below_size (by repeat (first | (with_reducible first | exact HB.out | apply below_alloc | apply pw_below_drewN | apply below_drew1) | exact HB.out))) : w.heap.size ≤ gb247)); clear HB; have HB := n0_; have BK247 := n1_; have GW247 := n2_; have GE247 := n3_; clear n0_ n1_ n2_ n3_; clear hb hbox hg))
  have n0_ := Aside0.mk (blk_drew BK247.out)
  have n1_ := Aside0.mk (below_drew1 HB.out)
  clear BK247
  clear HB
  have BK247 := n0_
  have HB := n1_
  clear n0_ n1_
  refine start_ (n := 8) (S := fun w' => w'.cell? ⟨gb247, 0, none⟩ = some (.int .i64 a0_0) ∧ w'.cell? ⟨gb247, 1, none⟩ = some (.int .i64 a0_1) ∧ w'.cell? ⟨gb247, 2, none⟩ = some (.int .i64 a0_2) ∧ w'.cell? ⟨gb247, 3, none⟩ = some (.int .i64 a0_3) ∧ w'.cell? ⟨gb247, 4, none⟩ = some (.int .i64 a0_4) ∧ w'.cell? ⟨gb247, 5, none⟩ = some (.int .i64 a0_5) ∧ w'.cell? ⟨gb247, 6, none⟩ = some (.int .i64 a0_6) ∧ w'.cell? ⟨gb247, 7, none⟩ = some (.int .i64 a0_7) ∧ w'.cell? ⟨gb247, 8, none⟩ = some (.int .i64 a0_8) ∧ w'.cell? ⟨gb247, 9, none⟩ = some (.int .i64 a0_9) ∧ w'.cell? ⟨gb247, 10, none⟩ = some (.int .i64 a0_10) ∧ w'.cell? ⟨gb247, 11, none⟩ = some (.int .i64 a0_11) ∧ w'.cell? ⟨gb247, 12, none⟩ = some (.int .i64 a0_12) ∧ w'.cell? ⟨gb247, 13, none⟩ = some (.int .i64 a0_13) ∧ w'.cell? ⟨gb247, 14, none⟩ = some (.int .i64 a0_14) ∧ w'.cell? ⟨gb247, 15, none⟩ = some (.slice A0_15 l0_15.length c0_15) ∧ w'.cell? ⟨gb247, 16, none⟩ = some (.slice A0_16 l0_16.length c0_16)) (ds := []) #[false, false, false, false, false, false, false, false] (by kernel_rfl) rfl rfl ⟨(blk_cell BK247.out 0).trans rfl, (blk_cell BK247.out 1).trans rfl, (blk_cell BK247.out 2).trans rfl, (blk_cell BK247.out 3).trans rfl, (blk_cell BK247.out 4).trans rfl, (blk_cell BK247.out 5).trans rfl, (blk_cell BK247.out 6).trans rfl, (blk_cell BK247.out 7).trans rfl, (blk_cell BK247.out 8).trans rfl, (blk_cell BK247.out 9).trans rfl, (blk_cell BK247.out 10).trans rfl, (blk_cell BK247.out 11).trans rfl, (blk_cell BK247.out 12).trans rfl, (blk_cell BK247.out 13).trans rfl, (blk_cell BK247.out 14).trans rfl, (blk_cell BK247.out 15).trans rfl, (blk_cell BK247.out 16).trans rfl⟩ (fun hHeld => ?_); refine with_tabW scratch_Words.tab1 scratch_Words.bits1 (fun HT_ HW_ => ?_)
  generalize w4.drew = w5 at BK247 HB hHeld ⊢
  refine pure_ (i := 0) (N := some 3) (v := ?_) (a' := ?_) #[true, false, false, false, false, false, false, false] rfl rfl (any_of HT_.out (by kernel_rfl)) (fun _ _ _ h => h) (Or.inl ⟨by rfl, ?_⟩) ?_ ?_
  rotate_left
  · intro w'
    go_simp
    with_reducible rfl
  rotate_left
  · simp only [Act.put, List.setIfInBounds_toArray, List.set_cons_zero, List.set_cons_succ, i64_w, i32_w]
    rfl
  refine pure_ (i := 3) (N := some 6) (v := ?_) (a' := ?_) #[true, false, false, true, false, false, false, false] rfl rfl (any_of HT_.out (by kernel_rfl)) (fun _ _ _ h => h) (Or.inl ⟨by rfl, ?_⟩) ?_ ?_
  rotate_left
  · intro w'
    go_simp
    with_reducible rfl
  rotate_left
  · simp only [Act.put, List.setIfInBounds_toArray, List.set_cons_zero, List.set_cons_succ, i64_w, i32_w]
    rfl
  refine take_ (i := 1) (N := some 4) (v := ?_) (a' := ?_) #[true, true, false, true, false, false, false, false] rfl rfl (take_ofW HT_.out HW_.out (by kernel_rfl)) (fun _ _ _ h => h) (Or.inl ⟨by rfl, ?_⟩) hHeld ?_ ?_
  rotate_left
  · rintro w' ⟨s0, s1, s2, s3, s4, s5, s6, s7, s8, s9, s10, s11, s12, s13, s14, s15, s16⟩
    go_simp
    with_reducible rfl
  rotate_left
  · simp only [Act.put, List.setIfInBounds_toArray, List.set_cons_zero, List.set_cons_succ, i64_w, i32_w]
    rfl
  refine take_ (i := 4) (N := some 7) (v := ?_) (a' := ?_) #[true, true, false, true, true, false, false, false] rfl rfl (take_ofW HT_.out HW_.out (by kernel_rfl)) (fun _ _ _ h => h) (Or.inl ⟨by rfl, ?_⟩) hHeld ?_ ?_
  rotate_left
  · rintro w' ⟨s0, s1, s2, s3, s4, s5, s6, s7, s8, s9, s10, s11, s12, s13, s14, s15, s16⟩
    go_simp
    with_reducible rfl
  rotate_left
  · simp only [Act.put, List.setIfInBounds_toArray, List.set_cons_zero, List.set_cons_succ, i64_w, i32_w]
    rfl
  refine one_ (i := 2) (N := some 5) #[true, true, true, true, true, false, false, false] rfl rfl (one_of HT_.out (by kernel_rfl)) (by decide) (fun K hK => ?_)
  refine goes_ Try.func112 (by kernel_rfl) rfl #[.slice A0_15 l0_15.length c0_15] (by rfl) rfl rfl (by (try simp only [List.map_toArray, List.map_cons, List.map_nil]); first | done | rfl | (simp only [List.length_drop, List.length_take]; rfl)) ?_
  with_reducible refine (scratch_count.calls _ _ l0_15 t248 _ ?side1 ?side2 A2.out).mono ?_
  (case side1 => repeat (first | exact (Kd.C_below HR0_15.out HB.out) | (with_reducible refine Kd.C_alloc ?_ _) | (with_reducible refine Kd.C_drewN ?_ _) | (with_reducible refine Kd.C_drew ?_)))
  (case side2 => exact HC0_15.out)
  rintro e w6 ⟨rfl, hb⟩
  refine ⟨_, rfl, ?_⟩
  have n0_ := Aside0.mk (blk_below (g := gb247) (o := .cells #[.int .i64 a0_0, .int .i64 a0_1, .int .i64 a0_2, .int .i64 a0_3, .int .i64 a0_4, .int .i64 a0_5, .int .i64 a0_6, .int .i64 a0_7, .int .i64 a0_8, .int .i64 a0_9, .int .i64 a0_10, .int .i64 a0_11, .int .i64 a0_12, .int .i64 a0_13, .int .i64 a0_14, .slice A0_15 l0_15.length c0_15, .slice A0_16 l0_16.length c0_16] 68 (0, 0)) (by (with_reducible repeat (first | refine blk_drewN ?_ _ | refine blk_drew ?_ | refine blk_alloc ?_ _)); exact BK247.out) hb)
  have n1_ := Aside0.mk (below_step (by repeat (first | (with_reducible first | exact HB.out | apply below_alloc | apply pw_below_drewN | apply below_drew1 | refine below_set ?_ GE247.out) | exact HB.out)) hb)
  clear BK247
  clear HB
  have BK247 := n0_
  have HB := n1_
  clear n0_ n1_
  (try clear hb)
  (try clear hb2)
  (try clear hk)
  (try clear hi)
  refine hK.out _ _ ⟨(blk_cell BK247.out 0).trans rfl, (blk_cell BK247.out 1).trans rfl, (blk_cell BK247.out 2).trans rfl, (blk_cell BK247.out 3).trans rfl, (blk_cell BK247.out 4).trans rfl, (blk_cell BK247.out 5).trans rfl, (blk_cell BK247.out 6).trans rfl, (blk_cell BK247.out 7).trans rfl, (blk_cell BK247.out 8).trans rfl, (blk_cell BK247.out 9).trans rfl, (blk_cell BK247.out 10).trans rfl, (blk_cell BK247.out 11).trans rfl, (blk_cell BK247.out 12).trans rfl, (blk_cell BK247.out 13).trans rfl, (blk_cell BK247.out 14).trans rfl, (blk_cell BK247.out 15).trans rfl, (blk_cell BK247.out 16).trans rfl⟩ (fun hHeld => ?_)
  clear hK K
  refine norm_ (a' := ?_) ?_ ?_
  rotate_left
  · show Act.put _ (some 5) _ = _
    simp only [Act.put, List.setIfInBounds_toArray, List.set_cons_zero, List.set_cons_succ, i64_w, i32_w]
    rfl
  refine one_ (i := 5) (N := some 8) #[true, true, true, true, true, true, false, false] rfl rfl (one_of HT_.out (by kernel_rfl)) (by decide) (fun K hK => ?_)
  refine goes_ Try.func112 (by kernel_rfl) rfl #[.slice A0_16 l0_16.length c0_16] (by rfl) rfl rfl (by (try simp only [List.map_toArray, List.map_cons, List.map_nil]); first | done | rfl | (simp only [List.length_drop, List.length_take]; rfl)) ?_
  with_reducible refine (scratch_count.calls _ _ l0_16 t249 _ ?side1 ?side2 A3.out).mono ?_
  (case side1 => repeat (first | exact (Kd.C_below HR0_16.out HB.out) | (with_reducible refine Kd.C_alloc ?_ _) | (with_reducible refine Kd.C_drewN ?_ _) | (with_reducible refine Kd.C_drew ?_)))
  (case side2 => exact HC0_16.out)
  rintro e w7 ⟨rfl, hb⟩
  refine ⟨_, rfl, ?_⟩
  have n0_ := Aside0.mk (blk_below (g := gb247) (o := .cells #[.int .i64 a0_0, .int .i64 a0_1, .int .i64 a0_2, .int .i64 a0_3, .int .i64 a0_4, .int .i64 a0_5, .int .i64 a0_6, .int .i64 a0_7, .int .i64 a0_8, .int .i64 a0_9, .int .i64 a0_10, .int .i64 a0_11, .int .i64 a0_12, .int .i64 a0_13, .int .i64 a0_14, .slice A0_15 l0_15.length c0_15, .slice A0_16 l0_16.length c0_16] 68 (0, 0)) (by (with_reducible repeat (first | refine blk_drewN ?_ _ | refine blk_drew ?_ | refine blk_alloc ?_ _)); exact BK247.out) hb)
  have n1_ := Aside0.mk (below_step (by repeat (first | (with_reducible first | exact HB.out | apply below_alloc | apply pw_below_drewN | apply below_drew1 | refine below_set ?_ GE247.out) | exact HB.out)) hb)
  clear BK247
  clear HB
  have BK247 := n0_
  have HB := n1_
  clear n0_ n1_
  (try clear hb)
  (try clear hb2)
  (try clear hk)
  (try clear hi)
  refine hK.out _ _ ⟨(blk_cell BK247.out 0).trans rfl, (blk_cell BK247.out 1).trans rfl, (blk_cell BK247.out 2).trans rfl, (blk_cell BK247.out 3).trans rfl, (blk_cell BK247.out 4).trans rfl, (blk_cell BK247.out 5).trans rfl, (blk_cell BK247.out 6).trans rfl, (blk_cell BK247.out 7).trans rfl, (blk_cell BK247.out 8).trans rfl, (blk_cell BK247.out 9).trans rfl, (blk_cell BK247.out 10).trans rfl, (blk_cell BK247.out 11).trans rfl, (blk_cell BK247.out 12).trans rfl, (blk_cell BK247.out 13).trans rfl, (blk_cell BK247.out 14).trans rfl, (blk_cell BK247.out 15).trans rfl, (blk_cell BK247.out 16).trans rfl⟩ (fun hHeld => ?_)
  clear hK K
  refine norm_ (a' := ?_) ?_ ?_
  rotate_left
  · show Act.put _ (some 8) _ = _
    simp only [Act.put, List.setIfInBounds_toArray, List.set_cons_zero, List.set_cons_succ, i64_w, i32_w]
    rfl
  refine pure_ (i := 6) (N := some 9) (v := ?_) (a' := ?_) #[true, true, true, true, true, true, true, false] rfl rfl (any_of HT_.out (by kernel_rfl)) (fun _ _ _ h => h) (Or.inl ⟨by rfl, ?_⟩) ?_ ?_
  rotate_left
  · intro w'
    go_simp
    with_reducible rfl
  rotate_left
  · simp only [Act.put, List.setIfInBounds_toArray, List.set_cons_zero, List.set_cons_succ, i64_w, i32_w]
    rfl
  refine pure_ (i := 7) (N := some 2) (v := ?_) (a' := ?_) #[true, true, true, true, true, true, true, true] rfl rfl (any_of HT_.out (by kernel_rfl)) (fun _ _ _ h => h) (Or.inl ⟨by rfl, ?_⟩) ?_ ?_
  rotate_left
  · intro w'
    go_simp
    with_reducible rfl
  rotate_left
  · simp only [Act.put, List.setIfInBounds_toArray, List.set_cons_zero, List.set_cons_succ, i64_w, i32_w]
    rfl
  refine done_ (done_of HT_.out (by kernel_rfl)) ?_
  try go_wp2
  go_ret
  exact ⟨by first | rfl | (simp [errW_none, errW_some] <;> rfl) | (simp [*, errW_none, errW_some] <;> rfl), by repeat (first | (with_reducible first | exact HB.out | apply below_alloc | apply pw_below_drewN | apply below_drew1 | refine below_set ?_ GE247.out) | exact HB.out)⟩

end Go.Proofs.Ytdgegoefehmfmaa.QScratchPlaces
