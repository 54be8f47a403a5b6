-- Written for this claim by this session's own program (wip/pp).
import Derived.Test.YtdgegoefehmfmaaQCertWx0
import Derived.Test.YtdgegoefehmfmaaQCertWx1
namespace Go.Proofs.Ytdgegoefehmfmaa.QCertW
open Go.RowKit Go.Proofs.YtdgegoefehmfmaaW.PrintWords Go.Proofs.YtdgegoefehmfmaaW.PrintLast Go.Proofs.YtdgegoefehmfmaaW.PrintMore
attribute [local go_sem] max2_int min2_int max_two min_two max_three min_three max_four min_four   -- for this text's walks alone
set_option linter.unusedVariables false
set_option linter.unusedSimpArgs false

/-! ### slices_Index_bool_bool: function 134 -/
def slices_Index_bool_bool.l0 : Nat → List Bool → Bool → Int → Int → Option (Int)
  | 0, _, _, _, _ => none
  | k + 1, x0, x1, x7, x8 => if x8 < x7 then (if 0 ≤ x8 then (if x8 < (x0.length : Int) then (if (x1 == (rdOf false x0 x8)) = true then (some x8) else (slices_Index_bool_bool.l0 k x0 x1 x7 (wrap64 (x8 + 1)))) else (none)) else (none)) else (some (-1))
def slices_Index_bool_bool.f (k : Nat) (l0 : List Bool) (a1 : Bool) : Option (Int) := slices_Index_bool_bool.l0 k l0 a1 (l0.length : Int) 0
theorem slices_Index_bool_bool.mono_l : ∀ k, (∀ y0 y1 y2 y3, LeO (slices_Index_bool_bool.l0 k y0 y1 y2 y3) (slices_Index_bool_bool.l0 (k + 1) y0 y1 y2 y3))
  | 0 => fun _ _ _ _ r h => by simp [slices_Index_bool_bool.l0] at h
  | k + 1 => by
    have ih0 := slices_Index_bool_bool.mono_l k
    · intro y0 y1 y2 y3
      unfold slices_Index_bool_bool.l0
      repeat' first
      | (with_reducible exact ih0 _ _ _ _)
      | (with_reducible exact LeO.refl _)
      | (with_reducible exact LeO.none _)
      | (with_reducible refine LeO.ite ?_ ?_)
      | (with_reducible refine LeO.bind ?_ (fun _ => ?_))
      | exact ih0 _ _ _ _
      | exact LeO.none _
      | refine LeO.ite ?_ ?_
      | refine LeO.bind ?_ (fun _ => ?_)
theorem slices_Index_bool_bool.mono : ∀ a0 a1 k, LeO (slices_Index_bool_bool.f k a0 a1) (slices_Index_bool_bool.f (k + 1) a0 a1) := by
  intro a0 a1 k
  have ih0 := slices_Index_bool_bool.mono_l k
  unfold slices_Index_bool_bool.f
  repeat' first
      | (with_reducible exact ih0 _ _ _ _)
      | (with_reducible exact LeO.refl _)
      | (with_reducible exact LeO.none _)
      | (with_reducible refine LeO.ite ?_ ?_)
      | (with_reducible refine LeO.bind ?_ (fun _ => ?_))
      | exact ih0 _ _ _ _
      | exact LeO.none _
      | refine LeO.ite ?_ ?_
      | refine LeO.bind ?_ (fun _ => ?_)
set_option maxHeartbeats 8000000 in
set_option maxRecDepth 100000 in
theorem slices_Index_bool_bool.calls (k : Nat) (A0 : Option Addr) (c0 : Nat) (l0 : List Bool) (a1 : Bool) (r : Int) (w : World) (hr0 : Kd.C Kd.bool w A0 l0.length l0) (hc0 : l0.length ≤ c0) (h : slices_Index_bool_bool.f k l0 a1 = some r) :
    Calls Try.prog 134 #[.slice A0 l0.length c0, .bool a1] w fun e w' => e = .returned (.int .i64 r) ∧ Drawn0 w w' := by
  have HR0 := Aside0.mk hr0
  have HC0 := Aside0.mk hc0
  clear hr0 hc0
  have H : (slices_Index_bool_bool.l0 k l0 a1 (l0.length : Int) 0) = some r := h
  clear h
  have H' := Aside0.mk H
  clear H
  go_enter Try.func134, Try.ntmps134
  go_wp2
  go_loopg [8] k (fun kq v8 w' => ∃ (x8_1 : Int), v8 = .int .i64 x8_1 ∧ Aside0 (slices_Index_bool_bool.l0 kq l0 a1 (l0.length : Int) x8_1 = some r) ∧ Aside0 (kq ≤ k) ∧ Drawn0 w w')
  case atStart => exact ⟨(0), (by first | rfl | (simp; done) | (simp [*]; done)), H', ⟨Nat.le_refl _⟩, by repeat (first | exact Drawn0.refl _ | apply Drawn0.step)⟩
  case round =>
    clear H'
    try clear c1
    try clear p2
    obtain ⟨x8_1, rfl, HA, HK1, ⟨m1, rfl⟩⟩ := hrel
    cases gk with
    | zero => exact absurd HA.out (by simp [slices_Index_bool_bool.l0])
    | succ k1 =>
      have H := HA.out
      clear HA
      simp only [slices_Index_bool_bool.l0] at H
      by_cases c3 : x8_1 < (l0.length : Int)
      · rw [if_pos c3] at H
        have c3b0 : decide (x8_1 < (l0.length : Int)) = true := decide_eq_true c3
        clear c3
        by_cases c4 : 0 ≤ x8_1
        · rw [if_pos c4] at H
          have c4b0 : decide (0 ≤ x8_1) = true := decide_eq_true c4
          clear c4
          by_cases c5 : x8_1 < (l0.length : Int)
          · rw [if_pos c5] at H
            have c5b0 : decide (x8_1 < (l0.length : Int)) = true := decide_eq_true c5
            clear c5
            by_cases c6 : (a1 == (rdOf false l0 x8_1)) = true
            · rw [if_pos c6] at H
              have c6b0 : (a1 == (rdOf false l0 x8_1)) = true := c6
              (try (have c6b1 : decide (a1 = (rdOf false l0 x8_1)) = true := by simpa using c6))
              (try (have c6b2 : (a1 == (rdOf false l0 x8_1)) = true := by simpa using c6))
              clear c6
              obtain rfl := Option.some.inj H
              have p106 : 0 ≤ (x8_1 : Int) := of_decide_eq_true (by first | (with_reducible assumption) | assumption)
              have q106 : x8_1 < (l0.length : Int) := of_decide_eq_true (by first | (with_reducible assumption) | assumption)
              obtain ⟨ad106, e106, hx106_0⟩ := Kd.at_bool HR0.out x8_1 p106 q106
              cases e106
              replace p106 := eq_true p106
              replace q106 := eq_true q106
              go_wp2
              go_ret
              exact ⟨by first | rfl | (simp; done) | (simp [*]; done), by repeat (first | exact Drawn0.refl _ | apply Drawn0.step)⟩
            · rw [if_neg c6] at H
              have c6b0 : (a1 == (rdOf false l0 x8_1)) = false := by simpa using c6
              (try (have c6b1 : decide (a1 = (rdOf false l0 x8_1)) = false := by simpa using c6))
              (try (have c6b2 : (a1 == (rdOf false l0 x8_1)) = false := by simpa using c6))
              (try (have c6b3 : ¬ (a1 = (rdOf false l0 x8_1)) := by simpa using c6))
              clear c6
              have H' := Aside0.mk H
              clear H
              have p106 : 0 ≤ (x8_1 : Int) := of_decide_eq_true (by first | (with_reducible assumption) | assumption)
              have q106 : x8_1 < (l0.length : Int) := of_decide_eq_true (by first | (with_reducible assumption) | assumption)
              obtain ⟨ad106, e106, hx106_0⟩ := Kd.at_bool HR0.out x8_1 p106 q106
              cases e106
              replace p106 := eq_true p106
              replace q106 := eq_true q106
              go_wp2
              go_roundg k1
              case measure => have := HK1.out; omega
              case rel => exact ⟨(wrap64 (x8_1 + 1)), (by first | rfl | (simp; done) | (simp [*]; done)), H', ⟨by have := HK1.out; omega⟩, by repeat (first | exact Drawn0.refl _ | apply Drawn0.step)⟩
          · rw [if_neg c5] at H
            exact absurd H (by simp)
        · rw [if_neg c4] at H
          exact absurd H (by simp)
      · rw [if_neg c3] at H
        have c3b0 : decide (x8_1 < (l0.length : Int)) = false := decide_eq_false c3
        clear c3
        obtain rfl := Option.some.inj H
        go_wp2
        go_ret
        exact ⟨by first | rfl | (simp; done) | (simp [*]; done), by repeat (first | exact Drawn0.refl _ | apply Drawn0.step)⟩

/-! ### slices_Contains_bool_bool: function 98 -/
def slices_Contains_bool_bool.f (k : Nat) (l0 : List Bool) (a1 : Bool) : Option (Bool) := (slices_Index_bool_bool.f k l0 a1).bind fun t107 => (some (decide (t107 ≥ 0)))
theorem slices_Contains_bool_bool.mono : ∀ a0 a1 k, LeO (slices_Contains_bool_bool.f k a0 a1) (slices_Contains_bool_bool.f (k + 1) a0 a1) := by
  intro a0 a1 k
  unfold slices_Contains_bool_bool.f
  repeat' first
      | (with_reducible exact slices_Index_bool_bool.mono _ _ _)
      | (with_reducible exact LeO.refl _)
      | (with_reducible exact LeO.none _)
      | (with_reducible refine LeO.ite ?_ ?_)
      | (with_reducible refine LeO.bind ?_ (fun _ => ?_))
      | exact slices_Index_bool_bool.mono _ _ _
      | exact LeO.none _
      | refine LeO.ite ?_ ?_
      | refine LeO.bind ?_ (fun _ => ?_)
set_option maxHeartbeats 8000000 in
set_option maxRecDepth 100000 in
theorem slices_Contains_bool_bool.calls (k : Nat) (A0 : Option Addr) (c0 : Nat) (l0 : List Bool) (a1 : Bool) (r : Bool) (w : World) (hr0 : Kd.C Kd.bool w A0 l0.length l0) (hc0 : l0.length ≤ c0) (h : slices_Contains_bool_bool.f k l0 a1 = some r) :
    Calls Try.prog 98 #[.slice A0 l0.length c0, .bool a1] w fun e w' => e = .returned (.bool r) ∧ Drawn0 w w' := by
  have HR0 := Aside0.mk hr0
  have HC0 := Aside0.mk hc0
  clear hr0 hc0
  have H : ((slices_Index_bool_bool.f k l0 a1).bind fun t107 => (some (decide (t107 ≥ 0)))) = some r := h
  clear h
  replace H := Option.bind_eq_some_iff.mp H
  obtain ⟨t107, A30, H⟩ := H
  replace H : (some (decide (t107 ≥ 0))) = some r := H
  have A3 := Aside0.mk A30
  clear A30
  obtain rfl := Option.some.inj H
  go_enter Try.func98, Try.ntmps98
  go_wp2_with (first | ((with_reducible refine gate_callee (f := 134) rfl ?_); refine goesL_ (some 7) rfl rfl Try.func134 (by kernel_rfl) rfl #[.slice A0 l0.length c0, .bool a1] rfl (by (try simp only [List.map_toArray, List.map_cons, List.map_nil]); first | done | rfl | (simp only [List.length_drop, List.length_take]; rfl)) ?_; (with_reducible refine (slices_Index_bool_bool.calls k _ _ l0 a1 t107 _ ?side1 ?side2 A3.out).mono ?_); (case side1 => repeat (first | exact HR0.out | (with_reducible refine Kd.C_alloc ?_ _) | (with_reducible refine Kd.C_drewN ?_ _) | (with_reducible refine Kd.C_drew ?_))); (case side2 => exact HC0.out); rintro e w' ⟨rfl, ⟨nd, rfl⟩⟩; refine ⟨_, rfl, ?_⟩))
  go_ret
  exact ⟨by first | rfl | (simp; done) | (simp [*]; done), by repeat (first | exact Drawn0.refl _ | apply Drawn0.step)⟩

/-! ### certificate_rows: function 193 -/

/-! ### certificate_leafCase_right: function 192 -/

/-! ### certificate_Valid: function 48 -/
/-- Multipliers that are as in a valid bound. -/
def rowAt (l : List S109) (k : Nat) : Prop := 0 ≤ (l.getD k z109).f0 ∧ (k = 0 ∨ (l.getD (k - 1) z109).f0 < (l.getD k z109).f0) ∧ 1 ≤ (l.getD k z109).f1 ∧ (l.getD k z109).f1 ≤ 1073741824
def rowsP (l : List S109) : Prop := ∀ k, k < l.length → rowAt l k
set_option maxHeartbeats 4000000 in
set_option maxRecDepth 100000 in
theorem rows_yes (A0 : Option Addr) (c0 : Nat) (l : List S109) (w : World) (hr : Kd.C k109 w A0 l.length l) (hl : l.length ≤ c0) (hp : rowsP l) :
    Calls Try.prog 193 #[.slice A0 l.length c0] w fun e w' => e = .returned (.bool true) ∧ Below w.heap.size w w' := by
  have HR := Aside0.mk hr
  have HN := Aside0.mk hr.2.1
  have HP := Aside0.mk hp
  have hu109 := Try.underlying109
  clear hr hp
  go_enter Try.func193, Try.ntmps193
  go_wp2_with fail
  go_loopw [7] (fun i wr => ∃ k : Nat, k ≤ l.length ∧ i = .int .i64 k ∧ Aside0 (Below w.heap.size w wr)) (fun i _ => l.length - (intOf i).toNat)
  case atStart => exact ⟨0, Nat.zero_le _, rfl, ⟨Below.refl _ _⟩⟩
  case round =>
    obtain ⟨k, hk, rfl, HB⟩ := hrel
    by_cases hlt : k < l.length
    · have hnn := HN.out
      obtain ⟨ad, e, g1, g2⟩ := at_T109 HR.out (k : Int) (by omega) (by omega)
      have hx : rd_T109 l (k : Int) = l.getD k z109 := by simp [rd_T109]
      rw [hx] at g1 g2
      clear hx
      cases e
      simp only [Int.toNat_natCast] at g1 g2
      replace g1 := (HB.out.cell (World.block_lt_of_cell? w _ g1)).trans g1
      replace g2 := (HB.out.cell (World.block_lt_of_cell? w _ g2)).trans g2
      have hT := HP.out k hlt
      unfold rowAt at hT
      obtain ⟨t1, t2, t3, t4⟩ := hT
      have b1 : decide ((l.getD k z109).f0 < 0) = false := decide_eq_false (by omega)
      have b2 : decide ((l.getD k z109).f1 < 1) = false := decide_eq_false (by omega)
      have b3 : decide (1073741824 < (l.getD k z109).f1) = false := decide_eq_false (by omega)
      clear t1 t3 t4
      by_cases e0 : k < 1
      · have b0 : decide (0 < k) = false := decide_eq_false (by omega)
        have E0 := Aside0.mk e0
        clear e0 t2
        generalize (l.getD k z109).f0 = x at *
        generalize (l.getD k z109).f1 = y at *
        go_wp2_with fail
        go_quiet (fail)
        go_wp2_with fail
        go_roundw
        case rel => exact ⟨k + 1, by omega, by go_num, ⟨(by repeat (first | (with_reducible first | exact HB.out | apply below_alloc | apply pw_below_drewN | apply below_drew1) | exact HB.out))⟩⟩
        case measure => simp [intOf]; omega
      · have z0 : decide (0 < k) = true := decide_eq_true (by omega)
        replace t2 : (l.getD (k - 1) z109).f0 < (l.getD k z109).f0 := by rcases t2 with h | h; omega; exact h
        obtain ⟨jj, hjj⟩ : ∃ j : Int, j = (k : Int) - 1 := ⟨_, rfl⟩
        have z1 : jj < (l.length : Int) := by omega
        have z2 : 0 ≤ jj := by omega
        obtain ⟨ad', e', g3, g4⟩ := at_T109 HR.out jj z2 z1
        have hx : rd_T109 l jj = l.getD (k - 1) z109 := by rw [hjj]; simp [rd_T109]
        rw [hx] at g3 g4
        clear hx
        cases e'
        replace g3 := (HB.out.cell (World.block_lt_of_cell? w _ g3)).trans g3
        clear g4
        replace g3 : ∀ o, (wr.alloc o).cell? (ad.add (jj.toNat * 2)) = some (.int .i64 (l.getD (k - 1) z109).f0) := fun o => (Below.cell (Below.refl wr.heap.size wr |>.alloc (Nat.le_refl _) o) (World.block_lt_of_cell? wr _ g3)).trans g3
        generalize (l.getD (k - 1) z109).f0 = u at *
        generalize (l.getD k z109).f0 = x at *
        generalize (l.getD k z109).f1 = y at *
        have HZ : Aside0 (IntKind.i64.wrap ((k : Int) - 1) = jj) := ⟨by rw [hjj]; exact IntWalk.i64_in _ (by omega)⟩
        clear hjj
        have b4 : decide (x ≤ u) = false := decide_eq_false (by omega)
        clear t2
        have z3 : IntKind.i64.wrap ((k : Int) - 1) = jj := HZ.out
        go_wp2_with fail
        go_quiet (fail)
        clear z3
        go_wp2_with fail
        go_roundw
        case rel => exact ⟨k + 1, by omega, by go_num, ⟨(by repeat (first | (with_reducible first | exact HB.out | apply below_alloc | apply pw_below_drewN | apply below_drew1) | exact HB.out))⟩⟩
        case measure => simp [intOf]; omega
    · go_wp2_with fail
      go_ret
      exact ⟨rfl, HB.out⟩
set_option maxHeartbeats 4000000 in
set_option maxRecDepth 100000 in
theorem right_leaf (A2 : Option Addr) (c2 : Nat) (A4 : Option Addr) (c4 : Nat) (l : List S109) (den n : Int) (B1 : Option Addr) (m1 d1 : Nat) (B2 : Option Addr) (m2 d2 : Nat) (cst i : Int) (w : World) (hr : Kd.C k109 w A4 l.length l) (hl : l.length ≤ c4) (hp : rowsP l) (h0 : 0 ≤ den) (h1 : den ≤ 1024) :
    Calls Try.prog 192 #[.agg #[.int .i64 (-1), .int .i64 (-1), .slice A2 0 c2, .int .i64 0, .slice A4 l.length c4, .int .i64 den], .agg #[.int .i64 n, .slice B1 m1 d1, .slice B2 m2 d2, .int .i64 cst], .int .i64 i] w fun e w' => e = .returned (.bool true) ∧ Below w.heap.size w w' := by
  have hu148 := Try.underlying148
  have hu29 := Try.underlying29
  have b1 : decide (0 ≤ den) = true := decide_eq_true h0
  have b2 : decide (den ≤ 1024) = true := decide_eq_true h1
  have HB := Aside0.mk (below_alloc (below_alloc (Below.refl w.heap.size w) (.cells #[.int .i64 (-1), .int .i64 (-1), .slice A2 0 c2, .int .i64 0, .slice A4 l.length c4, .int .i64 den] 148 (0, 0))) (.cells #[.int .i64 n, .slice B1 m1 d1, .slice B2 m2 d2, .int .i64 cst] 29 (0, 0)))
  have HC := Aside0.mk (Kd.C_below hr HB.out)
  clear hr
  go_enter Try.func192, Try.ntmps192
  go_wp2_with fail
  refine (rows_yes A4 c4 l _ HC.out hl hp).mono ?_
  rintro e w1 ⟨rfl, hb⟩
  have HB1 := Aside0.mk (below_step HB.out hb)
  clear hb HB HC
  go_wp2_with fail
  go_ret
  exact ⟨rfl, HB1.out⟩
set_option maxHeartbeats 4000000 in
set_option maxRecDepth 100000 in
theorem Valid_leaf (n : Int) (B1 : Option Addr) (d1 : Nat) (rows : List S96) (B2 : Option Addr) (d2 : Nat) (goal : List S109) (cst : Int) (A : Option Addr) (cc : Nat) (l : List S109) (den most : Int) (w : World)
    (h1 : Kd.C k96 w B1 rows.length rows) (le1 : rows.length ≤ d1) (h2 : Kd.C k109 w B2 goal.length goal) (le2 : goal.length ≤ d2) (hv : simplex_Valid.f n rows goal cst = some true) (hc : Kd.C k90 w A 1 [⟨-1, -1, [], 0, l, den⟩]) (hcc : 1 ≤ cc) (hp : rowsP l) (g0 : 0 ≤ den) (g1 : den ≤ 1024) :
    Calls Try.prog 48 #[.agg #[.int .i64 n, .slice B1 rows.length d1, .slice B2 goal.length d2, .int .i64 cst], .agg #[.slice A 1 cc, .int .i64 most]] w fun e w' => e = .returned (.bool true) ∧ Below w.heap.size w w' := by
  have hu29 := Try.underlying29
  have hu79 := Try.underlying79
  have hu90 := Try.underlying90
  have hu148 := Try.underlying148
  have ht1 : ∀ (v : Value) (w : World), (Instr.typeAssert (.iface 148 v) 145 148 true).run Try.prog w = .ok (.tuple #[v, .bool true]) w := fun v w => assert_same Try.underlying148
  have hm : ∀ (v2 v4 : Value) (w : World), (method 336 148 (.agg #[.int .i64 (-1), .int .i64 (-1), v2, .int .i64 0, v4, .int .i64 den]) "timebound/certificate.right").run Try.prog w = .ok (192, .agg #[.int .i64 (-1), .int .i64 (-1), v2, .int .i64 0, v4, .int .i64 den]) w := fun _ _ _ => by kernel_rfl
  have HB := Aside0.mk (below_alloc (below_alloc (Below.refl w.heap.size w) (.cells #[.int .i64 n, .slice B1 rows.length d1, .slice B2 goal.length d2, .int .i64 cst] 29 (0, 0))) (.cells #[.slice A 1 cc, .int .i64 most] 79 (0, 0)))
  have H1 := Aside0.mk h1
  have H2 := Aside0.mk h2
  have HV := Aside0.mk hv
  have HC := Aside0.mk hc
  have HP := Aside0.mk hp
  have hlb := heap_alloc_last (w.alloc (.cells #[.int .i64 n, .slice B1 rows.length d1, .slice B2 goal.length d2, .int .i64 cst] 29 (0, 0))) (.cells #[.slice A 1 cc, .int .i64 most] 79 (0, 0))
  rw [show (w.alloc (.cells #[.int .i64 n, .slice B1 rows.length d1, .slice B2 goal.length d2, .int .i64 cst] 29 (0, 0))).heap.size = w.heap.size + 1 from by simp] at hlb
  have LB := Aside0.mk hlb
  have LM := Aside0.mk (blk_alloc (heap_alloc_last w (.cells #[.int .i64 n, .slice B1 rows.length d1, .slice B2 goal.length d2, .int .i64 cst] 29 (0, 0))) (.cells #[.slice A 1 cc, .int .i64 most] 79 (0, 0)))
  clear h1 h2 hv hc hp hlb
  go_enter Try.func48, Try.ntmps48
  go_wp2_with fail
  refine (simplex_Valid.calls n B1 d1 rows B2 d2 goal cst true _ (Kd.C_below H1.out HB.out) le1 (Kd.C_below H2.out HB.out) le2 HV.out).mono ?_
  rintro e w1 ⟨rfl, hb⟩
  have HB1 := Aside0.mk (below_step HB.out hb)
  have LB1 := Aside0.mk (blk_below LB.out hb)
  have LM1 := Aside0.mk (blk_below LM.out hb)
  clear hb HB LB LM
  have m0 := blk_cell LB1.out 0
  have m1 := blk_cell LB1.out 1
  go_wp2_with ((with_reducible refine gate_dst (N := 31) rfl ?_); refine Kd.R_make Kd.bool _ 4 rfl (N := 31) rfl 143 _ _ rfl 1 rfl rfl Try.underlying143 (.bool false) 1 (by kernel_rfl) rfl (by decide) (by omega) false (ok := fun _ => True) (okp := fun _ => True) rfl (fun _ hk => hk) trivial (by omega) (by omega) (Below.refl _ _) (Nat.le_refl _) ?_; intro v1 w2 hu hb hg hv; have HB2 := Aside0.mk (below_step HB1.out hb); have LB2 := Aside0.mk (blk_below LB1.out hb); have LM2 := Aside0.mk (blk_below LM1.out hb); have m2 := blk_cell LB2.out 0; obtain ⟨AG, cG, hv1⟩ := Kd.R_slice hu; replace hv1 : v1 = .slice AG 1 cG := hv1; subst hv1; have HG := Aside0.mk hu; clear m0 m1 hu hb hg hv HB1 LB1 LM1)
  clear m2
  go_loopw [35] (fun i wr => ∃ k : Nat, k ≤ 1 ∧ i = .int .i64 k ∧ Aside0 (Below w2.heap.size w2 wr)) (fun i _ => 1 - (intOf i).toNat)
  case atStart => exact ⟨0, by omega, rfl, ⟨Below.refl _ _⟩⟩
  case round =>
    obtain ⟨k, hk, rfl, HW⟩ := hrel
    by_cases hlt : k < 1
    · obtain ⟨ad, A2, c2, A4, c4, e, x0, x1, x2, x3, x4, x5, y⟩ := at_T90 (Kd.C_below HC.out (below_step HB2.out HW.out)) (k : Int) (by omega) (by omega)
      have hk0 : rd_T90 [⟨-1, -1, [], 0, l, den⟩] (k : Int) = ⟨-1, -1, [], 0, l, den⟩ := by rw [show k = 0 by omega]; rfl
      rw [hk0] at x0 x1 x2 x3 x4 x5 y
      obtain ⟨_, _, hl4, hC4⟩ := y
      simp only [Int.toNat_natCast, List.length_nil] at x0 x1 x2 x3 x4 x5 hl4 hC4
      obtain rfl := e
      have H4 := Aside0.mk hC4
      have HW3 := Aside0.mk (below_alloc HW.out (.cells #[.int .i64 (-1), .int .i64 (-1), .slice A2 0 c2, .int .i64 0, .slice A4 l.length c4, .int .i64 den] 90 (0, 0)))
      clear hk0 hC4
      go_wp2_with fail
      refine (kindOf_leaf (-1) A2 0 c2 0 A4 l.length c4 den _).mono ?_
      rintro e w4 ⟨rfl, hb⟩
      have HW4 := Aside0.mk (below_step HW3.out hb)
      have HC4 := Aside0.mk (Kd.C_below (Kd.C_alloc H4.out (.cells #[.int .i64 (-1), .int .i64 (-1), .slice A2 0 c2, .int .i64 0, .slice A4 l.length c4, .int .i64 den] 90 (0, 0))) hb)
      have LM4 := Aside0.mk (blk_below LM2.out HW4.out)
      have m0 := blk_cell LM4.out 0
      have m1 := blk_cell LM4.out 1
      have m2 := blk_cell LM4.out 2
      have m3 := blk_cell LM4.out 3
      clear hb x0 x1 x2 x3 x4 x5 H4 HW3
      go_wp2_with fail
      refine (right_leaf A2 c2 A4 c4 l den n B1 rows.length d1 B2 goal.length d2 cst k _ HC4.out hl4 HP.out g0 g1).mono ?_
      rintro e w5 ⟨rfl, hb⟩
      have HW5 := Aside0.mk (below_step HW4.out hb)
      have HW6 := Aside0.mk (below_alloc HW5.out (.cells #[.int .i64 (-1), .int .i64 (-1), .slice A2 0 c2, .int .i64 0, .slice A4 l.length c4, .int .i64 den] 148 (0, 0)))
      clear hb m0 m1 m2 m3 HW4 HC4 LM4 HW5
      go_wp2_with fail
      go_roundw
      case rel => exact ⟨k + 1, by omega, by go_num, HW6⟩
      case measure => simp [intOf]; omega
    · have HZ := Aside0.mk (below_step HB2.out HW.out)
      have h0 : ∀ B : Option Addr, Kd.C Kd.bool wr B ([] : List Bool).length [] := fun B => ⟨rfl, by simp, fun h => absurd h (Nat.lt_irrefl _)⟩
      have hf : slices_Contains_bool_bool.f 3 [] false = some false := by rfl
      go_wp2_with fail
      all_goals
        refine (slices_Contains_bool_bool.calls 3 _ _ [] false false wr (h0 _) (Nat.zero_le _) hf).mono ?_
        rintro e wz ⟨rfl, hd⟩
        have HZ2 := Aside0.mk (below_step HZ.out hd.below)
        clear hd
        go_wp2_with fail
        go_ret
        exact ⟨rfl, HZ2.out⟩

/-! ### api_Row_137: function 137 -/
set_option maxHeartbeats 1000000 in
set_option maxRecDepth 100000 in
theorem api_Row_137.any (A : Option Addr) (c : Nat) (l : List (List (S96))) (g : Nat) (lb : Array Value) (p : (List (S96)) → Bool) (w : World) (hr : Kd.C (Kd.slice 96 k96) w A l.length l) (hl : l.length ≤ c)
    (eg : ∀ args w, (callFunc g args).run Try.prog w = .ok (.enter g args) w)
    (hp : ∀ (W : World) (x : (List (S96))) (A0_ : Option Addr) (c0_ : Nat), Below w.heap.size w W → x ∈ l → Kd.C k96 W A0_ x.length x → x.length ≤ c0_ → Calls Try.prog g (#[.slice A0_ x.length c0_] ++ lb) W fun e W' => e = .returned (.bool (p x)) ∧ Below W.heap.size W W') :
    Calls Try.prog 137 #[.slice A l.length c, .func (.func g) #[] lb] w fun e w' => e = .returned (.int .i64 (idxB p l)) ∧ Below w.heap.size w w' := by
  have HR := Aside0.mk hr
  have HP := Aside0.mk hp
  have HN := Aside0.mk hr.2.1
  clear hr hp
  go_enter Try.func137, Try.ntmps137
  go_wp2_with fail
  go_loopw [8] (fun i wr => ∃ k : Nat, k ≤ l.length ∧ i = .int .i64 k ∧ Aside0 (∀ x ∈ l.take k, p x = false) ∧ Aside0 (Below w.heap.size w wr)) (fun i _ => l.length - (intOf i).toNat)
  case atStart => exact ⟨0, Nat.zero_le _, rfl, ⟨by simp⟩, ⟨Below.refl _ _⟩⟩
  case round =>
    obtain ⟨k, hk, rfl, HQ, HB⟩ := hrel
    by_cases hlt : k < l.length
    · have hnn := HN.out
      obtain ⟨ad, A0_, c0_, e, h0, m0, g0⟩ := at_L4 HR.out (k : Int) (by omega) (by omega)
      have hx : rd_L4 l (k : Int) = l[k] := by simp [rd_L4, List.getD_eq_getElem?_getD, hlt]
      rw [hx] at h0 m0 g0
      have G0 := Aside0.mk g0
      have M0 := Aside0.mk m0
      clear g0 m0
      clear hx
      cases e
      simp only [Int.toNat_natCast] at h0
      replace h0 := (HB.out.cell (World.block_lt_of_cell? w _ h0)).trans h0
      have HL := Aside0.mk (List.getElem_mem hlt)
      have HIT : Aside0 (p l[k] = true → idxB p l = k) := ⟨idxB_hit p l k hlt HQ.out⟩
      have MISS : Aside0 (p l[k] = false → ∀ x ∈ l.take (k + 1), p x = false) := ⟨take_hit p l k hlt HQ.out⟩
      generalize l[k] = x at *
      cases hpk : p x with
      | true =>
        have HPK := Aside0.mk hpk
        clear hpk
        go_wp2_with fail
        refine (HP.out wr x A0_ c0_ HB.out HL.out (Kd.C_below G0.out HB.out) M0.out).mono ?_
        rintro e w1 ⟨rfl, hb1⟩
        rw [HPK.out]
        have HB1 := Aside0.mk hb1
        clear hb1
        go_wp2_with fail
        go_ret
        exact ⟨by rw [HIT.out HPK.out]; rfl, HB.out.trans (HB1.out.mono HB.out.size)⟩
      | false =>
        have HPK := Aside0.mk hpk
        clear hpk
        go_wp2_with fail
        refine (HP.out wr x A0_ c0_ HB.out HL.out (Kd.C_below G0.out HB.out) M0.out).mono ?_
        rintro e w1 ⟨rfl, hb1⟩
        rw [HPK.out]
        have HB1 := Aside0.mk hb1
        clear hb1
        go_wp2_with fail
        go_roundw
        case rel => exact ⟨k + 1, by omega, by go_num, ⟨MISS.out HPK.out⟩, ⟨HB.out.trans (HB1.out.mono HB.out.size)⟩⟩
        case measure => simp [intOf]; omega
    · go_wp2_with fail
      go_ret
      exact ⟨by rw [idxB_none p l (by have := HQ.out; rwa [List.take_of_length_le (by omega)] at this)]; rfl, HB.out⟩

/-! ### api_Row_102: function 102 -/
set_option maxHeartbeats 1000000 in
set_option maxRecDepth 100000 in
theorem api_Row_102.any (A : Option Addr) (c : Nat) (l : List (List (S96))) (g : Nat) (lb : Array Value) (p : (List (S96)) → Bool) (w : World) (hr : Kd.C (Kd.slice 96 k96) w A l.length l) (hl : l.length ≤ c)
    (eg : ∀ args w, (callFunc g args).run Try.prog w = .ok (.enter g args) w)
    (hp : ∀ (W : World) (x : (List (S96))) (A0_ : Option Addr) (c0_ : Nat), Below w.heap.size w W → x ∈ l → Kd.C k96 W A0_ x.length x → x.length ≤ c0_ → Calls Try.prog g (#[.slice A0_ x.length c0_] ++ lb) W fun e W' => e = .returned (.bool (p x)) ∧ Below W.heap.size W W') :
    Calls Try.prog 102 #[.slice A l.length c, .func (.func g) #[] lb] w fun e w' => e = .returned (.bool (l.any p)) ∧ Below w.heap.size w w' := by
  have HC := Aside0.mk (api_Row_137.any A c l g lb p w hr hl eg hp)
  clear hr hp
  go_enter Try.func102, Try.ntmps102
  go_wp2_with fail
  refine HC.out.mono ?_
  rintro e w1 ⟨rfl, hb⟩
  have HB := Aside0.mk hb
  clear hb
  go_wp2
  go_ret
  exact ⟨by rw [← idxB_nonneg p l]; rfl, HB.out⟩

-- NOT PRINTED: function 103 (certificate_Check_1)

/-! ### certificate_leaf: function 104 -/
def certificate_leaf.f (a0_0 a0_1 : Int) (l0_2 : List S109) (a0_3 : Int) (l0_4 : List S109) (a0_5 : Int) : Option Bool := some (decide (a0_0 = -1))
set_option maxHeartbeats 4000000 in
set_option maxRecDepth 100000 in
theorem certificate_leaf.calls (a0_0 a0_1 : Int) (A0_2 : Option Addr) (c0_2 : Nat) (l0_2 : List S109) (a0_3 : Int) (A0_4 : Option Addr) (c0_4 : Nat) (l0_4 : List S109) (a0_5 : Int) (r : Bool) (w : World) (hr0_2 : Kd.C k109 w A0_2 l0_2.length l0_2) (hc0_2 : l0_2.length ≤ c0_2) (hr0_4 : Kd.C k109 w A0_4 l0_4.length l0_4) (hc0_4 : l0_4.length ≤ c0_4) (h : certificate_leaf.f a0_0 a0_1 l0_2 a0_3 l0_4 a0_5 = some r) :
    Calls Try.prog 104 #[.agg #[.int .i64 a0_0, .int .i64 a0_1, .slice A0_2 l0_2.length c0_2, .int .i64 a0_3, .slice A0_4 l0_4.length c0_4, .int .i64 a0_5]] w fun e w' => e = .returned (.bool r) ∧ Below w.heap.size w w' := by
  obtain rfl := Option.some.inj h
  clear h hr0_2 hc0_2 hr0_4 hc0_4
  generalize l0_2.length = n2
  generalize l0_4.length = n4
  have hu90 := Try.underlying90
  have hu148 := Try.underlying148
  have hu149 := Try.underlying149
  have ht1 : ∀ (v : Value) (w : World), (Instr.typeAssert (.iface 148 v) 145 148 true).run Try.prog w = .ok (.tuple #[v, .bool true]) w := fun v w => assert_same Try.underlying148
  have ht2 : ∀ (v : Value) (w : World), (Instr.typeAssert (.iface 149 v) 145 148 true).run Try.prog w = .ok (.tuple #[.agg #[.int .i64 0, .int .i64 0, .slice none 0 0, .int .i64 0, .slice none 0 0, .int .i64 0], .bool false]) w := fun v w => assert_other (by decide) Try.underlying148 (by kernel_rfl)
  by_cases c : a0_0 = -1
  · subst c
    have HB := Aside0.mk (below_alloc (Below.refl w.heap.size w) (.cells #[.int .i64 (-1), .int .i64 a0_1, .slice A0_2 n2 c0_2, .int .i64 a0_3, .slice A0_4 n4 c0_4, .int .i64 a0_5] 90 (0, 0)))
    go_enter Try.func104, Try.ntmps104
    go_wp2_with fail
    refine (kindOf_leaf a0_1 A0_2 n2 c0_2 a0_3 A0_4 n4 c0_4 a0_5 _).mono ?_
    rintro e w1 ⟨rfl, hb⟩
    have HB1 := Aside0.mk (below_alloc (below_step HB.out hb) (.cells #[.int .i64 (-1), .int .i64 a0_1, .slice A0_2 n2 c0_2, .int .i64 a0_3, .slice A0_4 n4 c0_4, .int .i64 a0_5] 148 (0, 0)))
    clear hb HB
    go_wp2_with fail
    go_ret
    exact ⟨rfl, HB1.out⟩
  · have HD := Aside0.mk (decide_eq_false c)
    have HB := Aside0.mk (below_alloc (Below.refl w.heap.size w) (.cells #[.int .i64 a0_0, .int .i64 a0_1, .slice A0_2 n2 c0_2, .int .i64 a0_3, .slice A0_4 n4 c0_4, .int .i64 a0_5] 90 (0, 0)))
    go_enter Try.func104, Try.ntmps104
    go_wp2_with fail
    refine (kindOf_split a0_1 A0_2 n2 c0_2 a0_3 A0_4 n4 c0_4 a0_5 _ a0_0 c).mono ?_
    rintro e w1 ⟨rfl, hb⟩
    have HB1 := Aside0.mk (below_alloc (below_step HB.out hb) (.cells #[.int .i64 0, .int .i64 0, .slice none 0 0, .int .i64 0, .slice none 0 0, .int .i64 0] 148 (0, 0)))
    clear hb HB c
    go_wp2_with fail
    go_ret
    exact ⟨by rw [HD.out]; rfl, HB1.out⟩

-- NOT PRINTED: function 135 (certificate_split)

-- NOT PRINTED: function 136 (api_Row_136)

/-! ### certificate_above: function 101 -/
set_option maxHeartbeats 4000000 in
set_option maxRecDepth 100000 in
theorem above_leaf (A : Option Addr) (cc : Nat) (l : List S109) (den most : Int) (w : World) (hc : Kd.C k90 w A 1 [⟨-1, -1, [], 0, l, den⟩]) (hcc : 1 ≤ cc) :
    Calls Try.prog 101 #[.agg #[.slice A 1 cc, .int .i64 most]] w fun e w' => ∃ v0, e = .returned v0 ∧ Kd.R (Kd.slice 96 k96) 26 w' w.heap.size (fun _ => True) v0 [[]] ∧ Below w.heap.size w w' := by
  have hu79 := Try.underlying79
  have hu90 := Try.underlying90
  have HB := Aside0.mk (below_alloc (Below.refl w.heap.size w) (.cells #[.slice A 1 cc, .int .i64 most] 79 (0, 0)))
  have HC := Aside0.mk hc
  have LB := Aside0.mk (heap_alloc_last w (.cells #[.slice A 1 cc, .int .i64 most] 79 (0, 0)))
  clear hc
  have m0 := blk_cell LB.out 0
  have m1 := blk_cell LB.out 1
  go_enter Try.func101, Try.ntmps101
  go_wp2_with ((with_reducible refine gate_dst (N := 11) rfl ?_); refine Kd.R_make (Kd.slice 96 k96) (w0 := w) w.heap.size 26 rfl (N := 11) rfl 153 _ _ rfl 1 rfl rfl Try.underlying153 (.slice none 0 0) 24 (by kernel_rfl) rfl (by decide) (by omega) [] (ok := fun _ => True) (okp := fun _ => True) ⟨_, rfl, Kd.R_nil _ _ _ _ _⟩ (fun _ hk => hk) trivial (by omega) (by omega) HB.out (below_size HB.out) ?_; intro v1 w2 hu hb hg hv; have HB2 := Aside0.mk hb; have LB2 := Aside0.mk (blk_grown LB.out hg (by simp)); have m2 := blk_cell LB2.out 0; obtain ⟨AG, cG, hv1⟩ := Kd.R_slice hu; replace hv1 : v1 = .slice AG 1 cG := hv1; subst hv1; have HG := Aside0.mk hu; clear m0 m1 hu hb hg hv HB LB)
  clear m2
  go_loopw [15] (fun i wr => ∃ k : Nat, k ≤ 1 ∧ i = .int .i64 k ∧ Aside0 (Below w2.heap.size w2 wr)) (fun i _ => 1 - (intOf i).toNat)
  case atStart => exact ⟨0, by omega, rfl, ⟨Below.refl _ _⟩⟩
  case round =>
    obtain ⟨k, hk, rfl, HW⟩ := hrel
    by_cases hlt : k < 1
    · obtain ⟨ad, A2, c2, A4, c4, e, x0, x1, x2, x3, x4, x5, y⟩ := at_T90 (Kd.C_below HC.out (below_step HB2.out HW.out)) (k : Int) (by omega) (by omega)
      have hk0 : rd_T90 [⟨-1, -1, [], 0, l, den⟩] (k : Int) = ⟨-1, -1, [], 0, l, den⟩ := by rw [show k = 0 by omega]; rfl
      rw [hk0] at x0 x1 x2 x3 x4 x5 y
      obtain ⟨hl2, hC2, hl4, hC4⟩ := y
      simp only [Int.toNat_natCast, List.length_nil] at x0 x1 x2 x3 x4 x5
      obtain rfl := e
      have H2 := Aside0.mk (Kd.C_alloc hC2 (.cells #[.int .i64 (-1), .int .i64 (-1), .slice A2 0 c2, .int .i64 0, .slice A4 l.length c4, .int .i64 den] 90 (0, 0)))
      have H4 := Aside0.mk (Kd.C_alloc hC4 (.cells #[.int .i64 (-1), .int .i64 (-1), .slice A2 0 c2, .int .i64 0, .slice A4 l.length c4, .int .i64 den] 90 (0, 0)))
      have HW3 := Aside0.mk (below_alloc HW.out (.cells #[.int .i64 (-1), .int .i64 (-1), .slice A2 0 c2, .int .i64 0, .slice A4 l.length c4, .int .i64 den] 90 (0, 0)))
      clear hk0 hC2 hC4
      go_wp2_with fail
      refine (certificate_leaf.calls (-1) (-1) A2 c2 [] 0 A4 c4 l den true _ H2.out (Nat.zero_le _) H4.out hl4 rfl).mono ?_
      rintro e w4 ⟨rfl, hb⟩
      have HW4 := Aside0.mk (below_step HW3.out hb)
      clear hb x0 x1 x2 x3 x4 x5 H2 H4 HW3
      go_wp2_with fail
      go_roundw
      case rel => exact ⟨k + 1, by omega, by go_num, HW4⟩
      case measure => simp [intOf]; omega
    · have HZ := Aside0.mk (Kd.R_below HG.out HW.out)
      have HZ2 := Aside0.mk (below_step HB2.out HW.out)
      go_wp2_with fail
      go_ret
      exact ⟨_, rfl, HZ.out, HZ2.out⟩
set_option maxHeartbeats 4000000 in
set_option maxRecDepth 100000 in
theorem short_above (bm : Nat) (A : Option Addr) (c : Nat) (B1 : Option Addr) (n1 k1 : Nat) (hn : n1 ≤ 400) (w : World) (hm : w.cell? ⟨bm, 1, none⟩ = some (.slice B1 n1 k1)) :
    Calls Try.prog 103 #[.slice A 0 c, .pointer (some ⟨bm, 0, none⟩)] w fun e w' => e = .returned (.bool false) ∧ Below w.heap.size w w' := by
  have hu29 := Try.underlying29
  have q1 : decide (400 < (n1 : Int)) = false := decide_eq_false (by omega)
  have q2 : decide (400 < n1) = false := decide_eq_false (by omega)
  go_enter Try.func103, Try.ntmps103
  go_wp2_with fail
  go_ret
  exact ⟨rfl, Below.refl _ _⟩
set_option maxHeartbeats 4000000 in
set_option maxRecDepth 100000 in
theorem none_longI (A : Option Addr) (c : Nat) (bm : Nat) (B1 : Option Addr) (n1 k1 : Nat) (hn : n1 ≤ 400) (w : World) (hc : Kd.C (Kd.slice 96 k96) w A 1 [[]]) (hcc : 1 ≤ c) (hm : w.cell? ⟨bm, 1, none⟩ = some (.slice B1 n1 k1)) :
    Calls Try.prog 137 #[.slice A 1 c, .func (.func 103) #[] #[.pointer (some ⟨bm, 0, none⟩)]] w fun e w' => e = .returned (.int .i64 (-1)) ∧ Below w.heap.size w w' := by
  have HC := Aside0.mk hc
  have HM := Aside0.mk hm
  clear hc hm
  go_enter Try.func137, Try.ntmps137
  go_wp2_with fail
  go_loopw [8] (fun i wr => ∃ k : Nat, k ≤ 1 ∧ i = .int .i64 k ∧ Aside0 (Below w.heap.size w wr)) (fun i _ => 1 - (intOf i).toNat)
  case atStart => exact ⟨0, by omega, rfl, ⟨Below.refl _ _⟩⟩
  case round =>
    obtain ⟨k, hk, rfl, HW⟩ := hrel
    by_cases hlt : k < 1
    · obtain ⟨ad, c0, e, hsz, hK, hx⟩ := Kd.C_get (Kd.C_below HC.out HW.out) [] (k : Int) (by omega) (by omega)
      have hk0 : ([([] : List S96)]).getD (k : Int).toNat [] = [] := by rw [show k = 0 by omega]; rfl
      rw [hk0] at hK
      obtain ⟨A', c', rfl, _, _⟩ := hK
      obtain rfl := e
      have x0 : wr.cell? (ad.add k) = some (.slice A' 0 c') := by
        have := hx 0 _ rfl
        simp only [Int.toNat_natCast, Nat.add_zero] at this
        rw [show k * (Kd.slice 96 k96).sz = k from Nat.mul_one k] at this
        exact this
      have HM1 := Aside0.mk ((HW.out.cell (World.block_lt_of_cell? w _ HM.out)).trans HM.out)
      clear hx hsz hk0
      go_wp2_with fail
      refine (short_above bm A' c' B1 n1 k1 hn wr HM1.out).mono ?_
      rintro e w4 ⟨rfl, hb⟩
      have HW4 := Aside0.mk (below_step HW.out hb)
      clear hb x0
      go_wp2_with fail
      go_roundw
      case rel => exact ⟨k + 1, by omega, by go_num, HW4⟩
      case measure => simp [intOf]; omega
    · go_wp2_with fail
      go_ret
      exact ⟨rfl, HW.out⟩
set_option maxHeartbeats 4000000 in
set_option maxRecDepth 100000 in
/-- No list of rows above is too long. -/
theorem none_long (A : Option Addr) (c : Nat) (bm : Nat) (B1 : Option Addr) (n1 k1 : Nat) (hn : n1 ≤ 400) (w : World) (hc : Kd.C (Kd.slice 96 k96) w A 1 [[]]) (hcc : 1 ≤ c) (hm : w.cell? ⟨bm, 1, none⟩ = some (.slice B1 n1 k1)) :
    Calls Try.prog 102 #[.slice A 1 c, .func (.func 103) #[] #[.pointer (some ⟨bm, 0, none⟩)]] w fun e w' => e = .returned (.bool false) ∧ Below w.heap.size w w' := by
  have HC := Aside0.mk (none_longI A c bm B1 n1 k1 hn w hc hcc hm)
  clear hc hm
  go_enter Try.func102, Try.ntmps102
  go_wp2_with fail
  refine HC.out.mono ?_
  rintro e w1 ⟨rfl, hb⟩
  have HB := Aside0.mk hb
  clear hb
  go_wp2_with fail
  go_ret
  exact ⟨rfl, HB.out⟩

/-! ### slices_IndexFunc_int_int: function 114 -/
set_option maxHeartbeats 1000000 in
set_option maxRecDepth 100000 in
theorem slices_IndexFunc_int_int.any (A : Option Addr) (c : Nat) (l : List Int) (g : Nat) (lb : Array Value) (p : Int → Bool) (w : World) (hr : Kd.C (Kd.int .i64) w A l.length l) (hl : l.length ≤ c)
    (eg : ∀ args w, (callFunc g args).run Try.prog w = .ok (.enter g args) w)
    (hp : ∀ (W : World) (x : Int), Below w.heap.size w W → x ∈ l → Calls Try.prog g (#[.int .i64 x] ++ lb) W fun e W' => e = .returned (.bool (p x)) ∧ Below W.heap.size W W') :
    Calls Try.prog 114 #[.slice A l.length c, .func (.func g) #[] lb] w fun e w' => e = .returned (.int .i64 (idxB p l)) ∧ Below w.heap.size w w' := by
  have HR := Aside0.mk hr
  have HP := Aside0.mk hp
  have HN := Aside0.mk hr.2.1
  clear hr hp
  go_enter Try.func114, Try.ntmps114
  go_wp2_with fail
  go_loopw [8] (fun i wr => ∃ k : Nat, k ≤ l.length ∧ i = .int .i64 k ∧ Aside0 (∀ x ∈ l.take k, p x = false) ∧ Aside0 (Below w.heap.size w wr)) (fun i _ => l.length - (intOf i).toNat)
  case atStart => exact ⟨0, Nat.zero_le _, rfl, ⟨by simp⟩, ⟨Below.refl _ _⟩⟩
  case round =>
    obtain ⟨k, hk, rfl, HQ, HB⟩ := hrel
    by_cases hlt : k < l.length
    · have hnn := HN.out
      obtain ⟨ad, e, h0⟩ := Kd.at_int HR.out (k : Int) (by omega) (by omega)
      have hx : rd l (k : Int) = l[k] := by simp [rd, List.getD_eq_getElem?_getD, hlt]
      rw [hx] at h0
      clear hx
      cases e
      simp only [Int.toNat_natCast] at h0
      replace h0 := (HB.out.cell (World.block_lt_of_cell? w _ h0)).trans h0
      have HL := Aside0.mk (List.getElem_mem hlt)
      have HIT : Aside0 (p l[k] = true → idxB p l = k) := ⟨idxB_hit p l k hlt HQ.out⟩
      have MISS : Aside0 (p l[k] = false → ∀ x ∈ l.take (k + 1), p x = false) := ⟨take_hit p l k hlt HQ.out⟩
      generalize l[k] = x at *
      cases hpk : p x with
      | true =>
        have HPK := Aside0.mk hpk
        clear hpk
        go_wp2_with fail
        refine (HP.out wr x HB.out HL.out).mono ?_
        rintro e w1 ⟨rfl, hb1⟩
        rw [HPK.out]
        have HB1 := Aside0.mk hb1
        clear hb1
        go_wp2_with fail
        go_ret
        exact ⟨by rw [HIT.out HPK.out]; rfl, HB.out.trans (HB1.out.mono HB.out.size)⟩
      | false =>
        have HPK := Aside0.mk hpk
        clear hpk
        go_wp2_with fail
        refine (HP.out wr x HB.out HL.out).mono ?_
        rintro e w1 ⟨rfl, hb1⟩
        rw [HPK.out]
        have HB1 := Aside0.mk hb1
        clear hb1
        go_wp2_with fail
        go_roundw
        case rel => exact ⟨k + 1, by omega, by go_num, ⟨MISS.out HPK.out⟩, ⟨HB.out.trans (HB1.out.mono HB.out.size)⟩⟩
        case measure => simp [intOf]; omega
    · go_wp2_with fail
      go_ret
      exact ⟨by rw [idxB_none p l (by have := HQ.out; rwa [List.take_of_length_le (by omega)] at this)]; rfl, HB.out⟩

/-! ### slices_ContainsFunc_int_int: function 66 -/
set_option maxHeartbeats 1000000 in
set_option maxRecDepth 100000 in
theorem slices_ContainsFunc_int_int.any (A : Option Addr) (c : Nat) (l : List Int) (g : Nat) (lb : Array Value) (p : Int → Bool) (w : World) (hr : Kd.C (Kd.int .i64) w A l.length l) (hl : l.length ≤ c)
    (eg : ∀ args w, (callFunc g args).run Try.prog w = .ok (.enter g args) w)
    (hp : ∀ (W : World) (x : Int), Below w.heap.size w W → x ∈ l → Calls Try.prog g (#[.int .i64 x] ++ lb) W fun e W' => e = .returned (.bool (p x)) ∧ Below W.heap.size W W') :
    Calls Try.prog 66 #[.slice A l.length c, .func (.func g) #[] lb] w fun e w' => e = .returned (.bool (l.any p)) ∧ Below w.heap.size w w' := by
  have HC := Aside0.mk (slices_IndexFunc_int_int.any A c l g lb p w hr hl eg hp)
  clear hr hp
  go_enter Try.func66, Try.ntmps66
  go_wp2_with fail
  refine HC.out.mono ?_
  rintro e w1 ⟨rfl, hb⟩
  have HB := Aside0.mk hb
  clear hb
  go_wp2
  go_ret
  exact ⟨by rw [← idxB_nonneg p l]; rfl, HB.out⟩

end Go.Proofs.Ytdgegoefehmfmaa.QCertW
